import PyProof.Rows.All
import Wide.All
import OpenK.AllK
import Wide.FinOn
import HandS.ForMost
import HandS.ForExc
import HandS.Star
import HandS.CallSlots
import HandS.Walk
import HandS.Zip
import HandS.IsInst
import HandS.Flow
import HandS.Wide
import KE.GoesMore
import KE.GoesEnum
import HandS.TupAny
import HandS.TupMul
import KE.SortData
import KE.KSortTup
import KE.GoesZip
import HandS.Conv
import HandS.ExcValue
import HandS.Style
import HandS.Text
import HandS.Dict
import KE.KRevSl
import HandS.Defaults
import HandS.HeadHook1
import HandS.HeadHook2
import HandS.HeadEnd
import HandS.ExcInit
import HandS.ExcSuper
import KE.KExcSuper
import HandS.Nested
import KE.KSuper
import HandS.Words
import HandS.Iter
import HandS.Ends
import PyProof.ReprRoads
import KE.KStateDown
import HandS.Base
import HandS.Call
import HandS.More
import HandS.Head0
import HandS.Head1
import HandS.Head2
import PySem.Challenge.RW_nosplitpays_k75_records_of_meters
set_option Elab.async false
set_option linter.all false
set_option maxRecDepth 100000
namespace Nt
open PySem PySem.Spec L2
open PyProof.Rows hiding St

/-! ### data, objects, runs -/
inductive D where
  | non | bl (b : Bool) | int (i : Int) | str (x : Str)
  | tup (xs : List D) | lst (xs : List D) | dct (kvs : List (D × D)) | scr (ns : List Int) | ref (n : Nat)
  deriving Inhabited
inductive O where
  | lst (xs : List D) | ins (c : Str) (fs : List (Str × D)) | dct (kvs : List (D × D))
abbrev Sto := List O
abbrev Nv := List (Option D)
inductive Rs (α : Type) where
  | ok (a : α) (S : Sto) | ex (c : Str) (fs : List (Str × D)) (S : Sto) | bad
abbrev M (α : Type) := Sto → Rs α
def ret {α : Type} (a : α) : M α := fun S => .ok a S
def bnd {α β : Type} (m : M α) (f : α → M β) : M β := fun S => match m S with
  | .ok a S' => f a S' | .ex c fs S' => .ex c fs S' | .bad => .bad
def bad {α : Type} : M α := fun _ => .bad
def opt {α : Type} : Option α → M α
  | some a => ret a
  | none => bad
/-- an answer that reads the store alone -/
def ask {α : Type} (f : Sto → Option α) : M α := fun S => match f S with
  | some a => .ok a S | none => .bad

/-! ### how data lie in a heap: G the part that never changes, ψ the places of the store's objects -/
mutual
inductive DV (K : PySem.W.Frag) (G : Hp) (ψ : List Addr) : D → V → Prop
  | non : DV K G ψ .non .non
  | bl (b : Bool) : DV K G ψ (.bl b) (.bl b)
  | int (i : Int) : DV K G ψ (.int i) (.int i)
  | str (x : Str) : DV K G ψ (.str x) (.str x)
  | tup {ds : List D} {vs : List V} {a : Addr} : SqT K G a vs → vs.length ≤ sizeLine → DVs K G ψ ds vs → DV K G ψ (.tup ds) (.ref a)
  | scr {ns : List Int} {a : Addr} : SqL K G a (ns.map V.int) → ns.length ≤ sizeLine → DV K G ψ (.scr ns) (.ref a)
  | lst {ds : List D} {vs : List V} {a : Addr} : G a = some (.lst vs) → vs.length ≤ sizeLine → DVs K G ψ ds vs → DV K G ψ (.lst ds) (.ref a)
  | dct {kvs : List (D × D)} {vs : List (Key × V)} {a : Addr} : G a = some (.dK vs) → vs.length ≤ sizeLine → DKs K G ψ kvs vs → DV K G ψ (.dct kvs) (.ref a)
  | ref {n : Nat} {a : Addr} : ψ[n]? = some a → DV K G ψ (.ref n) (.ref a)
inductive DVs (K : PySem.W.Frag) (G : Hp) (ψ : List Addr) : List D → List V → Prop
  | nil : DVs K G ψ [] []
  | cons {d : D} {v : V} {ds : List D} {vs : List V} : DV K G ψ d v → DVs K G ψ ds vs → DVs K G ψ (d :: ds) (v :: vs)
inductive DKs (K : PySem.W.Frag) (G : Hp) (ψ : List Addr) : List (D × D) → List (Key × V) → Prop
  | nil : DKs K G ψ [] []
  | cons {k d : D} {key : Key} {v : V} {ds : List (D × D)} {vs : List (Key × V)} : DV K G ψ k (kV key) → DV K G ψ d v → DKs K G ψ ds vs → DKs K G ψ ((k, d) :: ds) ((key, v) :: vs)
end
/-- fields -/
inductive FVs (K : PySem.W.Frag) (G : Hp) (ψ : List Addr) : List (Str × D) → List (Str × V) → Prop
  | nil : FVs K G ψ [] []
  | cons {f : Str} {d : D} {v : V} {ds : List (Str × D)} {vs : List (Str × V)} : DV K G ψ d v → FVs K G ψ ds vs → FVs K G ψ ((f, d) :: ds) ((f, v) :: vs)

def OV (K : PySem.W.Frag) (mg : Str → Option Value) (G : Hp) (ψ : List Addr) (H : Hp) (a : Addr) : O → Prop
  | .lst xs => ∃ vs, H a = some (.lst vs) ∧ vs.length ≤ sizeLine ∧ DVs K G ψ xs vs
  | .ins c fs => ∃ C dx vfs, mg c = some (.ref C) ∧ H a = some (.ins C dx vfs) ∧ FVs K G ψ fs vfs
  | .dct kvs => ∃ vs, H a = some (.dK vs) ∧ vs.length ≤ sizeLine ∧ DKs K G ψ kvs vs

structure Rep (K : PySem.W.Frag) (mg : Str → Option Value) (G : Hp) (ψ : List Addr) (S : Sto) (H : Hp) : Prop where
  sub : Same G H
  len : ψ.length = S.length
  nd : ψ.Nodup
  sto : ∀ (n : Nat) (o : O), S[n]? = some o → ∃ a, ψ[n]? = some a ∧ G a = none ∧ OV K mg G ψ H a o

structure Ext (G : Hp) (ψ : List Addr) (H : Hp) (G' : Hp) (ψ' : List Addr) (H' : Hp) : Prop where
  g : Same G G'
  p : ∀ (n : Nat) (a : Addr), ψ[n]? = some a → ψ'[n]? = some a
  fr : ∀ a o, H a = some o → G a = none → a ∉ ψ → H' a = some o ∧ G' a = none ∧ a ∉ ψ'
theorem Ext.refl {G : Hp} {ψ : List Addr} {H : Hp} : Ext G ψ H G ψ H := ⟨Same.refl _, fun _ _ e => e, fun _ _ h g n => ⟨h, g, n⟩⟩
theorem Ext.trans {G G1 G2 : Hp} {ψ ψ1 ψ2 : List Addr} {H H1 H2 : Hp} (x : Ext G ψ H G1 ψ1 H1) (y : Ext G1 ψ1 H1 G2 ψ2 H2) : Ext G ψ H G2 ψ2 H2 :=
  ⟨x.g.trans y.g, fun n a e => y.p n a (x.p n a e), fun a o h g n => let ⟨h1, g1, n1⟩ := x.fr a o h g n; y.fr a o h1 g1 n1⟩

section
variable {K : PySem.W.Frag} {mg : Str → Option Value} {G G' : Hp} {ψ ψ' : List Addr} {H H' : Hp}
theorem Same.seqT {a : Addr} {xs : List V} (e : Same G G') (h : SqT K G a xs) : SqT K G' a xs := by
  rcases h with (h | ⟨o, h⟩) | h
  · exact .inl (.inl (e _ _ h))
  · exact .inl (.inr ⟨o, e _ _ h⟩)
  · exact .inr h
mutual
theorem DV.up (hg : Same G G') (hp : ∀ (n : Nat) (a : Addr), ψ[n]? = some a → ψ'[n]? = some a) : ∀ {d : D} {v : V}, DV K G ψ d v → DV K G' ψ' d v
  | _, _, .non => .non
  | _, _, .bl b => .bl b
  | _, _, .int i => .int i
  | _, _, .str x => .str x
  | _, _, .tup h z r => .tup (Same.seqT hg h) z (DVs.up hg hp r)
  | _, _, .lst h z r => .lst (hg _ _ h) z (DVs.up hg hp r)
  | _, _, .scr h z => .scr (hg.seq h) z
  | _, _, .dct h z r => .dct (hg _ _ h) z (DKs.up hg hp r)
  | _, _, .ref e => .ref (hp _ _ e)
theorem DVs.up (hg : Same G G') (hp : ∀ (n : Nat) (a : Addr), ψ[n]? = some a → ψ'[n]? = some a) : ∀ {d : List D} {v : List V}, DVs K G ψ d v → DVs K G' ψ' d v
  | _, _, .nil => .nil
  | _, _, .cons h r => .cons (DV.up hg hp h) (DVs.up hg hp r)
theorem DKs.up (hg : Same G G') (hp : ∀ (n : Nat) (a : Addr), ψ[n]? = some a → ψ'[n]? = some a) : ∀ {d : List (D × D)} {v : List (Key × V)}, DKs K G ψ d v → DKs K G' ψ' d v
  | _, _, .nil => .nil
  | _, _, .cons k h r => .cons (DV.up hg hp k) (DV.up hg hp h) (DKs.up hg hp r)
end
theorem FVs.up (hg : Same G G') (hp : ∀ (n : Nat) (a : Addr), ψ[n]? = some a → ψ'[n]? = some a) : ∀ {d : List (Str × D)} {v : List (Str × V)}, FVs K G ψ d v → FVs K G' ψ' d v
  | _, _, .nil => .nil
  | _, _, .cons h r => .cons (DV.up hg hp h) (FVs.up hg hp r)
theorem Ext.dv (x : Ext G ψ H G' ψ' H') {d : D} {v : V} (h : DV K G ψ d v) : DV K G' ψ' d v := h.up x.g x.p
theorem Ext.dvs (x : Ext G ψ H G' ψ' H') {d : List D} {v : List V} (h : DVs K G ψ d v) : DVs K G' ψ' d v := h.up x.g x.p

/-! lists of data -/
theorem DVs.length : ∀ {ds : List D} {vs : List V}, DVs K G ψ ds vs → ds.length = vs.length
  | _, _, .nil => rfl
  | _, _, .cons _ r => congrArg (· + 1) (DVs.length r)
theorem DVs.ints : ∀ ns : List Int, DVs K G ψ (ns.map D.int) (ns.map V.int)
  | [] => .nil
  | n :: ns => .cons (.int n) (DVs.ints ns)
theorem DVs.get : ∀ {ds : List D} {vs : List V} {i : Nat} {d : D}, DVs K G ψ ds vs → ds[i]? = some d → ∃ v, vs[i]? = some v ∧ DV K G ψ d v
  | _, _, _, _, .nil, e => by simp at e
  | _, _, 0, _, .cons r _, e => by simp at e; subst e; exact ⟨_, rfl, r⟩
  | _, _, i + 1, _, .cons _ t, e => by
    obtain ⟨v, h1, h2⟩ := DVs.get (i := i) t (by simpa using e)
    exact ⟨v, by simpa using h1, h2⟩
theorem DVs.getV : ∀ {ds : List D} {vs : List V} {i : Nat} {v : V}, DVs K G ψ ds vs → vs[i]? = some v → ∃ d, ds[i]? = some d ∧ DV K G ψ d v
  | _, _, _, _, .nil, e => by simp at e
  | _, _, 0, _, .cons r _, e => by simp at e; subst e; exact ⟨_, rfl, r⟩
  | _, _, i + 1, _, .cons _ t, e => by
    obtain ⟨v, h1, h2⟩ := DVs.getV (i := i) t (by simpa using e)
    exact ⟨v, by simpa using h1, h2⟩
theorem DVs.app : ∀ {ds es : List D} {vs us : List V}, DVs K G ψ ds vs → DVs K G ψ es us → DVs K G ψ (ds ++ es) (vs ++ us)
  | _, _, _, _, .nil, s => s
  | _, _, _, _, .cons r t, s => .cons r (DVs.app t s)
theorem DVs.take : ∀ {ds : List D} {vs : List V} (n : Nat), DVs K G ψ ds vs → DVs K G ψ (ds.take n) (vs.take n)
  | _, _, 0, _ => .nil
  | _, _, _ + 1, .nil => .nil
  | _, _, n + 1, .cons r t => .cons r (DVs.take n t)
theorem DVs.drop : ∀ {ds : List D} {vs : List V} (n : Nat), DVs K G ψ ds vs → DVs K G ψ (ds.drop n) (vs.drop n)
  | _, _, 0, r => r
  | _, _, _ + 1, .nil => .nil
  | _, _, n + 1, .cons r t => DVs.drop n t
theorem DVs.set : ∀ {ds : List D} {vs : List V} (i : Nat) {d : D} {v : V}, DVs K G ψ ds vs → DV K G ψ d v → DVs K G ψ (ds.set i d) (vs.set i v)
  | _, _, _, _, _, .nil, _ => .nil
  | _, _, 0, _, _, .cons _ t, h => .cons h t
  | _, _, i + 1, _, _, .cons r t, h => .cons r (DVs.set i t h)
theorem DVs.erase : ∀ {ds : List D} {vs : List V} (i : Nat), DVs K G ψ ds vs → DVs K G ψ (ds.eraseIdx i) (vs.eraseIdx i)
  | _, _, _, .nil => .nil
  | _, _, 0, .cons _ t => t
  | _, _, i + 1, .cons r t => .cons r (DVs.erase i t)
theorem DVs.rev : ∀ {ds : List D} {vs : List V}, DVs K G ψ ds vs → DVs K G ψ ds.reverse vs.reverse
  | _, _, .nil => .nil
  | _, _, .cons r t => by
    rw [List.reverse_cons, List.reverse_cons]
    exact DVs.app (DVs.rev t) (.cons r .nil)
theorem FVs.lookup : ∀ {fs : List (Str × D)} {vs : List (Str × V)} {f : Str} {d : D}, FVs K G ψ fs vs → fs.lookup f = some d → ∃ v, vs.lookup f = some v ∧ DV K G ψ d v
  | _, _, _, _, .nil, e => by simp at e
  | (g, x) :: fs, _ :: vs, f, d, .cons r t, e => by
    rw [List.lookup_cons] at e ⊢
    cases hb : f == g with
    | true => rw [hb] at e; cases e; exact ⟨_, rfl, r⟩
    | false => rw [hb] at e; exact FVs.lookup t e
theorem FVs.none : ∀ {fs : List (Str × D)} {vs : List (Str × V)} {f : Str}, FVs K G ψ fs vs → fs.lookup f = none → vs.lookup f = none
  | _, _, _, .nil, _ => rfl
  | (g, x) :: fs, _ :: vs, f, .cons r t, e => by
    rw [List.lookup_cons] at e ⊢
    cases hb : f == g with
    | true => rw [hb] at e; cases e
    | false => rw [hb] at e; exact FVs.none t e
def putD (f : Str) (d : D) : List (Str × D) → List (Str × D)
  | [] => [(f, d)]
  | (g, x) :: r => if g = f then (g, d) :: r else (g, x) :: putD f d r
theorem FVs.put {f : Str} {d : D} {v : V} (h : DV K G ψ d v) : ∀ {fs : List (Str × D)} {vs : List (Str × V)}, FVs K G ψ fs vs → FVs K G ψ (putD f d fs) (putF f v vs)
  | _, _, .nil => .cons h .nil
  | (g, x) :: fs, _ :: vs, .cons r t => by
    show FVs K G ψ (if g = f then (g, d) :: fs else (g, x) :: putD f d fs) (if g = f then _ else _)
    by_cases e : g = f
    · rw [if_pos e, if_pos e]; exact .cons h t
    · rw [if_neg e, if_neg e]; exact .cons r (FVs.put h t)
theorem FVs.length : ∀ {ds : List (Str × D)} {vs : List (Str × V)}, FVs K G ψ ds vs → ds.length = vs.length
  | _, _, .nil => rfl
  | _, _, .cons _ r => congrArg (· + 1) (FVs.length r)

theorem OV.up (hg : Same G G') (hp : ∀ (n : Nat) (a : Addr), ψ[n]? = some a → ψ'[n]? = some a) {a : Addr} (hh : H' a = H a) : ∀ {o : O}, OV K mg G ψ H a o → OV K mg G' ψ' H' a o
  | .lst xs, ⟨vs, h, z, r⟩ => ⟨vs, hh.trans h, z, r.up hg hp⟩
  | .ins c fs, ⟨C, dx, vfs, hm, h, r⟩ => ⟨C, dx, vfs, hm, hh.trans h, r.up hg hp⟩
  | .dct kvs, ⟨vs, h, z, r⟩ => ⟨vs, hh.trans h, z, r.up hg hp⟩
theorem OV.there {a : Addr} : ∀ {o : O}, OV K mg G ψ H a o → ∃ x, H a = some x
  | .lst xs, ⟨vs, h, _⟩ => ⟨_, h⟩
  | .ins c fs, ⟨C, dx, vfs, hm, h, r⟩ => ⟨_, h⟩
  | .dct kvs, ⟨vs, h, z, r⟩ => ⟨_, h⟩

/-! ### what a new object does -/
theorem Rep.at_ {S : Sto} (R : Rep K mg G ψ S H) {a : Addr} (h : a ∈ ψ) : ∃ (n : Nat) (o : O), ψ[n]? = some a ∧ S[n]? = some o ∧ G a = none ∧ OV K mg G ψ H a o := by
  obtain ⟨n, hn, e⟩ := List.getElem_of_mem h
  have hs : n < S.length := by rw [← R.len]; exact hn
  have e1 : ψ[n]? = some a := by rw [List.getElem?_eq_getElem hn, e]
  obtain ⟨b, hb, g, o⟩ := R.sto n S[n] (List.getElem?_eq_getElem hs)
  rw [e1] at hb
  cases hb
  exact ⟨n, _, e1, List.getElem?_eq_getElem hs, g, o⟩
theorem Rep.notMem {S : Sto} (R : Rep K mg G ψ S H) {p : Addr} (h : H p = none) : p ∉ ψ := fun hp => by
  obtain ⟨n, o, _, _, _, ov⟩ := R.at_ hp
  obtain ⟨x, e⟩ := ov.there
  rw [h] at e; cases e
theorem Rep.gfree {S : Sto} (R : Rep K mg G ψ S H) {p : Addr} (h : H p = none) : G p = none := R.sub.free h
/-- something private is written, or laid -/
theorem Rep.priv {S : Sto} (R : Rep K mg G ψ S H) {p : Addr} {o : HO} (hg : G p = none) (hp : p ∉ ψ) : Rep K mg G ψ S (upd H p o) := by
  refine ⟨fun b x e => ?_, R.len, R.nd, fun n x e => ?_⟩
  · rw [upd_ne (ne_of_none e hg)]; exact R.sub _ _ e
  · obtain ⟨a, ha, g, ov⟩ := R.sto n x e
    have hne : a ≠ p := fun z => hp (z ▸ List.mem_of_getElem? ha)
    exact ⟨a, ha, g, ov.up (Same.refl _) (fun _ _ e => e) (upd_ne hne)⟩
theorem Ext.laid {p : Addr} {o : HO} (h : H p = none) : Ext G ψ H G ψ (upd H p o) :=
  ⟨Same.refl _, fun _ _ e => e, fun a x e g n => ⟨by rw [upd_ne (ne_of_none e h)]; exact e, g, n⟩⟩
/-- what stands private at p becomes part of what never changes -/
theorem Rep.freeze {S : Sto} (R : Rep K mg G ψ S H) {p : Addr} {o : HO} (h : H p = some o) (hg : G p = none) (hp : p ∉ ψ) : Rep K mg (upd G p o) ψ S H := by
  have sg : Same G (upd G p o) := fun b x e => by rw [upd_ne (ne_of_none e hg)]; exact e
  refine ⟨fun b x e => ?_, R.len, R.nd, fun n x e => ?_⟩
  · by_cases hb : b = p
    · subst hb; rw [upd_same] at e; cases e; exact h
    · rw [upd_ne hb] at e; exact R.sub _ _ e
  · obtain ⟨a, ha, g, ov⟩ := R.sto n x e
    have hne : a ≠ p := fun z => hp (z ▸ List.mem_of_getElem? ha)
    exact ⟨a, ha, by rw [upd_ne hne]; exact g, ov.up sg (fun _ _ e => e) rfl⟩
/-- laid and frozen at once -/
theorem Rep.lay {S : Sto} (R : Rep K mg G ψ S H) {p : Addr} {o : HO} (h : H p = none) : Rep K mg (upd G p o) ψ S (upd H p o) :=
  (R.priv (R.gfree h) (R.notMem h)).freeze upd_same (R.gfree h) (R.notMem h)
theorem same_upd {p : Addr} {o : HO} (h : G p = none) : Same G (upd G p o) := fun b x e => by rw [upd_ne (ne_of_none e h)]; exact e
theorem Ext.lay {S : Sto} (R : Rep K mg G ψ S H) {p : Addr} {o : HO} (h : H p = none) : Ext G ψ H (upd G p o) ψ (upd H p o) :=
  ⟨same_upd (R.gfree h), fun _ _ e => e, fun a x e g n => by
    have hne := ne_of_none e h
    exact ⟨by rw [upd_ne hne]; exact e, by rw [upd_ne hne]; exact g, n⟩⟩
theorem get_snoc {α : Type} {l : List α} {x y : α} {n : Nat} (h : (l ++ [x])[n]? = some y) : l[n]? = some y ∨ (n = l.length ∧ x = y) := by
  by_cases hn : n < l.length
  · rw [List.getElem?_append_left hn] at h; exact .inl h
  · rw [List.getElem?_append_right (by omega)] at h
    have hz : n - l.length = 0 := by
      obtain ⟨q, _⟩ := List.getElem?_eq_some_iff.mp h
      simp at q
      omega
    rw [hz] at h
    simp at h
    exact .inr ⟨by omega, h⟩
/-- what stands private at p becomes an object of the store -/
theorem Rep.keep {S : Sto} (R : Rep K mg G ψ S H) {p : Addr} {o : O} (hg : G p = none) (hp : p ∉ ψ) (ov : OV K mg G (ψ ++ [p]) H p o) : Rep K mg G (ψ ++ [p]) (S ++ [o]) H := by
  have pp : ∀ (n : Nat) (a : Addr), ψ[n]? = some a → (ψ ++ [p])[n]? = some a := fun n a e => by
    rw [List.getElem?_append_left (List.getElem?_eq_some_iff.mp e).1]; exact e
  refine ⟨R.sub, by simp [R.len], ?_, fun n x e => ?_⟩
  · rw [List.nodup_append]
    exact ⟨R.nd, by simp, fun a ha b hb z => by
      rw [List.mem_singleton] at hb
      subst hb; subst z; exact hp ha⟩
  · rcases get_snoc e with e | ⟨e1, e2⟩
    · obtain ⟨a, ha, g, ov'⟩ := R.sto n x e
      exact ⟨a, pp _ _ ha, g, ov'.up (Same.refl _) pp rfl⟩
    · subst e1; subst e2
      exact ⟨p, by rw [← R.len]; simp, hg, ov⟩
/-- an object of the store is written -/
theorem Rep.write {S : Sto} (R : Rep K mg G ψ S H) {n : Nat} {a : Addr} {o : O} {ho : HO} (ha : ψ[n]? = some a) (hg : G a = none) (ov : OV K mg G ψ (upd H a ho) a o) : Rep K mg G ψ (S.set n o) (upd H a ho) := by
  refine ⟨fun b x e => by rw [upd_ne (ne_of_none e hg)]; exact R.sub _ _ e, by rw [List.length_set]; exact R.len, R.nd, fun m x e => ?_⟩
  by_cases hm : m = n
  · subst hm
    have hl : m < S.length := by
      have := (List.getElem?_eq_some_iff.mp ha).1
      rw [R.len] at this; exact this
    rw [List.getElem?_set_self hl] at e
    cases e
    exact ⟨a, ha, hg, ov⟩
  · rw [List.getElem?_set_ne (Ne.symm hm)] at e
    obtain ⟨b, hb, g, ov'⟩ := R.sto m x e
    have hne : b ≠ a := fun z => hm (by
      subst z
      obtain ⟨h1, e1⟩ := List.getElem?_eq_some_iff.mp hb
      obtain ⟨h2, e2⟩ := List.getElem?_eq_some_iff.mp ha
      exact (List.getElem_inj R.nd).mp (e1.trans e2.symm))
    exact ⟨b, hb, g, ov'.up (Same.refl _) (fun _ _ e => e) (upd_ne hne)⟩
theorem Ext.write {n : Nat} {a : Addr} {ho : HO} (ha : ψ[n]? = some a) : Ext G ψ H G ψ (upd H a ho) :=
  ⟨Same.refl _, fun _ _ e => e, fun b x e g m => by
    have hne : b ≠ a := fun z => m (z ▸ List.mem_of_getElem? ha)
    exact ⟨by rw [upd_ne hne]; exact e, g, m⟩⟩
end

/-! ### slots -/
def EV (K : PySem.W.Frag) (G : Hp) (ψ : List Addr) (ρ : Nv) (σ : St) : Prop := ∀ (i : Nat) (d : D), ρ[i]? = some (some d) → ∃ v, σ[i]? = some (some v) ∧ DV K G ψ d v
section
variable {K : PySem.W.Frag} {mg : Str → Option Value} {G G' : Hp} {ψ ψ' : List Addr} {H H' : Hp} {ρ : Nv} {σ : St}
theorem EV.up (h : EV K G ψ ρ σ) (x : Ext G ψ H G' ψ' H') : EV K G' ψ' ρ σ := fun i d e => let ⟨v, hv, r⟩ := h i d e; ⟨v, hv, x.dv r⟩
structure EVL (K : PySem.W.Frag) (G : Hp) (ψ : List Addr) (ρ : Nv) (σ : St) : Prop where
  ev : EV K G ψ ρ σ
  len : ρ.length = σ.length
theorem EVL.up (h : EVL K G ψ ρ σ) (x : Ext G ψ H G' ψ' H') : EVL K G' ψ' ρ σ := ⟨h.ev.up x, h.len⟩
theorem EVL.set (h : EVL K G ψ ρ σ) (i : Nat) {d : D} {v : V} (r : DV K G ψ d v) : EVL K G ψ (ρ.set i (some d)) (σ.set i (some v)) := by
  refine ⟨fun j e hj => ?_, by simp [h.len]⟩
  by_cases hij : i = j
  · subst hij
    have hl : i < ρ.length := by
      have := (List.getElem?_eq_some_iff.mp hj).1
      simpa using this
    rw [List.getElem?_set_self hl] at hj
    cases hj
    exact ⟨v, List.getElem?_set_self (h.len ▸ hl), r⟩
  · rw [List.getElem?_set_ne hij] at hj ⊢
    exact h.ev j e hj
theorem EVL.clear (h : EVL K G ψ ρ σ) (i : Nat) : EVL K G ψ (ρ.set i none) (σ.set i none) := by
  refine ⟨fun j e hj => ?_, by simp [h.len]⟩
  by_cases hij : i = j
  · subst hij
    have hl : i < ρ.length := by
      have := (List.getElem?_eq_some_iff.mp hj).1
      simpa using this
    rw [List.getElem?_set_self hl] at hj
    cases hj
  · rw [List.getElem?_set_ne hij] at hj ⊢
    exact h.ev j e hj
def wipeD (ρ : Nv) : List Nat → Nv
  | [] => ρ
  | v :: vs => (wipeD ρ vs).set v none
theorem EVL.wipe (h : EVL K G ψ ρ σ) : ∀ vs : List Nat, EVL K G ψ (wipeD ρ vs) (wipe σ vs)
  | [] => h
  | v :: vs => (EVL.wipe h vs).clear v
end

/-! ### the end of a run, in a heap -/
abbrev XD := Value → Option Addr → Hp → Prop
/-- an exception's class and fields -/
def XV (K : PySem.W.Frag) (mg : Str → Option Value) (G : Hp) (ψ : List Addr) (c : Str) (fs : List (Str × D)) (cls : Value) (dx : Option Addr) : Prop :=
  ∃ C, mg c = some (.ref C) ∧ cls = .ref C ∧ (fs = [] ∨ ∃ d vfs, dx = some d ∧ G d = some (.xd vfs) ∧ FVs K G ψ fs vfs)
def Fin {α : Type} (K : PySem.W.Frag) (mg : Str → Option Value) (G : Hp) (ψ : List Addr) (H : Hp) (W : XD) (r : Rs α) (q : α → Sto → Hp → List Addr → Hp → Prop) : Prop :=
  match r with
  | .ok a S' => ∀ G' ψ' H', Ext G ψ H G' ψ' H' → Rep K mg G' ψ' S' H' → q a S' G' ψ' H'
  | .ex c fs S' => ∀ G' ψ' H' cls dx, Ext G ψ H G' ψ' H' → Rep K mg G' ψ' S' H' → XV K mg G' ψ' c fs cls dx → W cls dx H'
  | .bad => False
section
variable {α β : Type} {K : PySem.W.Frag} {mg : Str → Option Value} {G G' : Hp} {ψ ψ' : List Addr} {H H' : Hp} {W : XD}
theorem Fin.step {r : Rs α} {q : α → Sto → Hp → List Addr → Hp → Prop} (x : Ext G ψ H G' ψ' H') (h : Fin K mg G ψ H W r q) : Fin K mg G' ψ' H' W r q := by
  cases r with
  | ok a S => exact fun G2 ψ2 H2 y R => h G2 ψ2 H2 (x.trans y) R
  | ex c fs S => exact fun G2 ψ2 H2 cls dx y R e => h G2 ψ2 H2 cls dx (x.trans y) R e
  | bad => exact h
theorem Fin.mono {r : Rs α} {q q' : α → Sto → Hp → List Addr → Hp → Prop} (h : Fin K mg G ψ H W r q) (hq : ∀ a S G' ψ' H', Ext G ψ H G' ψ' H' → Rep K mg G' ψ' S H' → q a S G' ψ' H' → q' a S G' ψ' H') : Fin K mg G ψ H W r q' := by
  cases r with
  | ok a S => exact fun G2 ψ2 H2 y R => hq _ _ _ _ _ y R (h G2 ψ2 H2 y R)
  | ex c fs S => exact h
  | bad => exact h
theorem Fin.bnd {m : M α} {f : α → M β} {S : Sto} {q : β → Sto → Hp → List Addr → Hp → Prop} {q' : α → Sto → Hp → List Addr → Hp → Prop} (h : Fin K mg G ψ H W (Nt.bnd m f S) q)
    (k : ∀ a S' G' ψ' H', Ext G ψ H G' ψ' H' → Rep K mg G' ψ' S' H' → Fin K mg G' ψ' H' W (f a S') q → q' a S' G' ψ' H') : Fin K mg G ψ H W (m S) q' := by
  unfold Nt.bnd at h
  cases e : m S with
  | ok a S' => rw [e] at h; exact fun G2 ψ2 H2 y R => k _ _ _ _ _ y R (h.step y)
  | ex c fs S' => rw [e] at h; exact h
  | bad => rw [e] at h; exact h
/-- .. where the last part answers at once -/
theorem Fin.done {a : α} {S : Sto} {q : α → Sto → Hp → List Addr → Hp → Prop} (h : Fin K mg G ψ H W (.ok a S) q) (x : Ext G ψ H G' ψ' H') (R : Rep K mg G' ψ' S H') : q a S G' ψ' H' := h _ _ _ x R
theorem Fin.ask {f : Sto → Option α} {S : Sto} {q : α → Sto → Hp → List Addr → Hp → Prop} (h : Fin K mg G ψ H W (Nt.ask f S) q) : ∃ a, f S = some a ∧ Fin K mg G ψ H W (.ok a S) q := by
  unfold Nt.ask at h
  cases e : f S with
  | some a => rw [e] at h; exact ⟨a, rfl, h⟩
  | none => rw [e] at h; exact h.elim
end
end Nt

namespace Nt
open PySem PySem.Spec L2
open PyProof.Rows hiding St

theorem PEimp {X : Cx} {e : Expr} {t t' : TE} (h : PE X e t) (w : ∀ σ H Q, t' σ H Q → t σ H Q) : PE X e t' := ⟨fun pins s σ H Q I q => h.run pins s σ H Q I (w σ H Q q)⟩
theorem PTimp {X : Cx} {e : Expr} {t t' : TT} (h : PT X e t) (w : ∀ σ H Q, t' σ H Q → t σ H Q) : PT X e t' := ⟨fun pins s σ H Q I q => h.run pins s σ H Q I (w σ H Q q)⟩
theorem PWimp {X : Cx} {e : Expr} {t t' : TT} (h : PW X e t) (w : ∀ σ H Q, t' σ H Q → t σ H Q) : PW X e t' := ⟨fun wh pins s σ H Q I q => h.run wh pins s σ H Q I (w σ H Q q)⟩
theorem PAimp {X : Cx} {e : List Expr} {t t' : TA} (h : PA X e t) (w : ∀ σ H Q, t' σ H Q → t σ H Q) : PA X e t' := ⟨fun pos pins s σ H Q I q => h.run pos pins s σ H Q I (w σ H Q q)⟩
theorem PSimp {X : Cx} {e : Stmt} {t t' : TS} (h : PS X e t) (w : ∀ D σ H, t' D σ H → t D σ H) : PS X e t' := ⟨fun pins s σ H D I q => h.run pins s σ H D I (w D σ H q)⟩
theorem PSsimp {X : Cx} {e : List Stmt} {t t' : TS} (h : PSs X e t) (w : ∀ D σ H, t' D σ H → t D σ H) : PSs X e t' := ⟨fun pins s σ H D I q => h.run pins s σ H D I (w D σ H q)⟩

/-! ### judgements -/
/-- a state with data -/
def tG {α : Type} (K : PySem.W.Frag) (mg : Str → Option Value) (W : WX) (m : Nv → M α) (σ : St) (H : Hp) (q : α → Sto → Hp → List Addr → Hp → Prop) : Prop :=
  ∃ G ψ S ρ, Rep K mg G ψ S H ∧ EVL K G ψ ρ σ ∧ Fin K mg G ψ H (fun c d H' => W c d σ H') (m ρ S) q
def tE (K : PySem.W.Frag) (mg : Str → Option Value) (W : WX) (m : Nv → M D) : TE := fun σ H Q => tG K mg W m σ H fun d _ G' ψ' H' => ∀ v, DV K G' ψ' d v → Q v H'
def tT (K : PySem.W.Frag) (mg : Str → Option Value) (W : WX) (m : Nv → M Bool) : TT := fun σ H Q => tG K mg W m σ H fun b _ _ _ H' => Q b H'
def tAr (K : PySem.W.Frag) (mg : Str → Option Value) (W : WX) (m : Nv → M (List D)) : TA := fun σ H Q => tG K mg W m σ H fun ds _ G' ψ' H' => ∀ vs, DVs K G' ψ' ds vs → Q vs H'
/-- a new list, private still -/
def tN (K : PySem.W.Frag) (mg : Str → Option Value) (W : WX) (m : Nv → M (List D)) : TE := fun σ H Q => tG K mg W m σ H fun ds _ G' ψ' H' => ∀ p vs, DVs K G' ψ' ds vs → vs.length ≤ sizeLine → H p = none → H' p = some (.lst vs) → G' p = none → p ∉ ψ' → Q (.ref p) H'
structure DE (X : Cx) (W : WX) (e : Expr) (m : Nv → M D) : Prop where pe : PE X e (tE X.K X.mg W m)
structure DT (X : Cx) (W : WX) (e : Expr) (m : Nv → M Bool) : Prop where pt : PT X e (tT X.K X.mg W m)
structure DW (X : Cx) (W : WX) (e : Expr) (m : Nv → M Bool) : Prop where pw : PW X e (tT X.K X.mg W m)
structure DA (X : Cx) (W : WX) (e : List Expr) (m : Nv → M (List D)) : Prop where pa : PA X e (tAr X.K X.mg W m)
/-- an expression that makes a new list -/
structure DN (X : Cx) (W : WX) (e : Expr) (m : Nv → M (List D)) : Prop where pe : PE X e (tN X.K X.mg W m)

section
variable {X : Cx} {W : WX} {a b c : Expr} {ma mb mc : Nv → M D} {pos : Pos}
theorem DW.dt {ta : Nv → M Bool} (h : DW X W a ta) : DT X W a ta := ⟨h.pw.pt⟩

/-! ### names, constants -/
def eV (i : Nat) : Nv → M D := fun ρ S => match ρ[i]? with | some (some d) => .ok d S | _ => .bad
def eC (d : D) : Nv → M D := fun _ S => .ok d S
theorem de_var (i : Nat) {x : Str} (hN : X.N[i]? = some x := by rfl) (hv : Vis X.env.scope x := by first | exact Or.inl rfl | exact Or.inr (Or.inl rfl) | exact Or.inr (Or.inr rfl)) (hd : (x == ("__debug__" : Str)) = false := by decide)
    (hcd : (x == ("__classdict__" : Str)) = false := by decide) : DE X W (.Name x pos) (eV i) := by
  refine ⟨PEimp (pe_var (i := i) hN hv hd hcd) ?_⟩
  rintro σ H Q ⟨G, ψ, S, ρ, R, E, F⟩
  unfold eV at F
  cases e : ρ[i]? with
  | none => rw [e] at F; exact F.elim
  | some o =>
    cases o with
    | none => rw [e] at F; exact F.elim
    | some d =>
      rw [e] at F
      obtain ⟨v, hv, r⟩ := E.ev i d e
      exact ⟨v, hv, F.done Ext.refl R v r⟩
theorem de_const {v : V} {d : D} (h : PE X a (tC v)) (r : ∀ G ψ, DV X.K G ψ d v) : DE X W a (eC d) := by
  refine ⟨PEimp h ?_⟩
  rintro σ H Q ⟨G, ψ, S, ρ, R, E, F⟩
  exact F.done Ext.refl R v (r G ψ)
theorem de_int {i j} : DE X W (.Constant (.int i) j pos) (eC (.int i)) := de_const pe_int fun _ _ => .int i
theorem de_bl {i j} : DE X W (.Constant (.bool i) j pos) (eC (.bl i)) := de_const pe_bl fun _ _ => .bl i
theorem de_non {j} : DE X W (.Constant .none j pos) (eC .non) := de_const pe_non fun _ _ => .non
theorem de_str {i j} : DE X W (.Constant (.str i) j pos) (eC (.str i)) := de_const pe_str fun _ _ => .str i
/-- a constant of the module -/
theorem de_glob {x : Str} {v : V} {d : D} {u : Value} (hg : Gl X x) (hm : X.mg x = some u) (r : RelV v u) (hd : ∀ G ψ, DV X.K G ψ d v) (hdb : (x == ("__debug__" : Str)) = false := by decide) : DE X W (.Name x pos) (eC d) := de_const (pe_glob hg hm r hdb) hd

/-! ### operators by values -/
abbrev F2 := Sto → D → D → Option D
def OpD (X : Cx) (g : Value → Value → Sem Value) (f : F2) : Prop :=
  OpR X g fun x y H Q => ∃ G ψ S d1 d2 d, Rep X.K X.mg G ψ S H ∧ DV X.K G ψ d1 x ∧ DV X.K G ψ d2 y ∧ f S d1 d2 = some d ∧
    ∀ G' H' v, Ext G ψ H G' ψ H' → Rep X.K X.mg G' ψ S H' → DV X.K G' ψ d v → Q v H'
def eO (f : F2) (ma mb : Nv → M D) : Nv → M D := fun ρ => bnd (ma ρ) fun x => bnd (mb ρ) fun y => ask fun S => f S x y
theorem two {σ : St} {H : Hp} {f : F2} {q : D → Sto → Hp → List Addr → Hp → Prop} {R2 : V → V → Hp → Prop} (h : tG X.K X.mg W (eO f ma mb) σ H q)
    (k : ∀ G ψ S H d1 d2 d x y, Rep X.K X.mg G ψ S H → DV X.K G ψ d1 x → DV X.K G ψ d2 y → f S d1 d2 = some d → (∀ G' H', Ext G ψ H G' ψ H' → Rep X.K X.mg G' ψ S H' → q d S G' ψ H') → R2 x y H) :
    tE X.K X.mg W ma σ H fun x H1 => tE X.K X.mg W mb σ H1 fun y H2 => R2 x y H2 := by
  obtain ⟨G, ψ, S, ρ, R, E, F⟩ := h
  refine ⟨G, ψ, S, ρ, R, E, F.bnd fun x S1 G1 ψ1 H1 X1 R1 F1 v dv => ?_⟩
  refine ⟨G1, ψ1, S1, ρ, R1, E.up X1, F1.bnd fun y S2 G2 ψ2 H2 X2 R2 F2 u du => ?_⟩
  obtain ⟨d, e, F3⟩ := F2.ask
  exact k G2 ψ2 S2 H2 x y d v u R2 (X2.dv dv) du e fun G' H' X' R' => F3.done X' R'
theorem de_op {op : Operator} {f : F2} (ho : OpD X (binaryOp op) f) (ha : DE X W a ma) (hb : DE X W b mb) : DE X W (.BinOp a op b pos) (eO f ma mb) := by
  refine ⟨PEimp (pe_op ho ha.pe hb.pe) fun σ H Q h => two h fun G ψ S H d1 d2 d x y R r1 r2 e q => ?_⟩
  exact ⟨G, ψ, S, d1, d2, d, R, r1, r2, e, fun G' H' v X' R' dv => q G' H' X' R' v dv⟩
theorem de_cmp {op : CmpOp} {f : F2} (ho : OpD X (compareOp op) f) (ha : DE X W a ma) (hb : DE X W b mb) (hm : behindInMarks op b = false := by first | exact nomark _ | rfl) : DE X W (.Compare a [op] [b] pos) (eO f ma mb) := by
  refine ⟨PEimp (pe_cmpR ho ha.pe hb.pe hm) fun σ H Q h => two h fun G ψ S H d1 d2 d x y R r1 r2 e q => ?_⟩
  exact ⟨G, ψ, S, d1, d2, d, R, r1, r2, e, fun G' H' v X' R' dv => q G' H' X' R' v dv⟩

/-! ### tests -/
/-- a value that is True or False -/
def asB (m : M D) : M Bool := bnd m fun d => match d with | .bl b => ret b | _ => bad
def tB' (m : Nv → M D) : Nv → M Bool := fun ρ => asB (m ρ)
theorem Fin.asB {K : PySem.W.Frag} {mg : Str → Option Value} {G : Hp} {ψ : List Addr} {H : Hp} {W : XD} {m : M D} {S : Sto} {q : Bool → Sto → Hp → List Addr → Hp → Prop} {q' : D → Sto → Hp → List Addr → Hp → Prop} (h : Fin K mg G ψ H W (Nt.asB m S) q)
    (k : ∀ b S' G' ψ' H', Ext G ψ H G' ψ' H' → Rep K mg G' ψ' S' H' → q b S' G' ψ' H' → q' (.bl b) S' G' ψ' H') : Fin K mg G ψ H W (m S) q' := by
  refine h.bnd fun d S1 G1 ψ1 H1 X1 R1 F1 => ?_
  cases d with
  | bl b => exact k b S1 G1 ψ1 H1 X1 R1 (F1.done Ext.refl R1)
  | _ => exact F1.elim
theorem dt_cmp {op : CmpOp} {f : F2} (ho : OpD X (compareOp op) f) (ha : DE X W a ma) (hb : DE X W b mb) (hm : behindInMarks op b = false := by first | exact nomark _ | rfl) : DT X W (.Compare a [op] [b] pos) (tB' (eO f ma mb)) := by
  refine ⟨PTimp (pt_cmpR ho ha.pe hb.pe hm) fun σ H Q h => ?_⟩
  obtain ⟨G, ψ, S, ρ, R, E, F⟩ := h
  have F' := F.asB (q' := fun d S' G' ψ' H' => ∀ v, DV X.K G' ψ' d v → ∃ k, v = V.bl k ∧ Q k H') fun b S1 G1 ψ1 H1 _ _ q v dv => by
    cases dv
    exact ⟨b, rfl, q⟩
  refine two ⟨G, ψ, S, ρ, R, E, F'⟩ fun G ψ S H d1 d2 d x y R r1 r2 e q => ?_
  exact ⟨G, ψ, S, d1, d2, d, R, r1, r2, e, fun G' H' v X' R' dv => q G' H' X' R' v dv⟩
/-- truth of data -/
def truD (S : Sto) : D → Option Bool
  | .non => some false
  | .bl b => some b
  | .int i => some (i != 0)
  | .str x => if x.length ≤ sizeLine then some ((x.length : Int) != 0) else none
  | .tup xs => some (!xs.isEmpty)
  | .lst xs => some (!xs.isEmpty)
  | .scr ns => some (!ns.isEmpty)
  | .ref n => match S[n]? with | some (.lst xs) => some (!xs.isEmpty) | _ => none
  | .dct _ => none
theorem DVs.isEmpty {K : PySem.W.Frag} {G : Hp} {ψ : List Addr} {ds : List D} {vs : List V} (h : DVs K G ψ ds vs) : ds.isEmpty = vs.isEmpty := by
  cases h <;> rfl
theorem truD_ok {K : PySem.W.Frag} {mg : Str → Option Value} {G : Hp} {ψ : List Addr} {S : Sto} {H : Hp} (R : Rep K mg G ψ S H) {d : D} {v : V} (r : DV K G ψ d v) {k : Bool} (e : truD S d = some k) : TruV K v H k := by
  cases r with
  | non => exact (Option.some.inj e).symm
  | bl b => exact (Option.some.inj e).symm
  | int i => exact (Option.some.inj e).symm
  | str x =>
    dsimp only [truD] at e
    by_cases h : x.length ≤ sizeLine
    · rw [if_pos h] at e; exact ⟨h, (Option.some.inj e).symm⟩
    · rw [if_neg h] at e; cases e
  | tup h z r => exact .inr (.inl ⟨_, Same.seqT R.sub h, by rw [← r.isEmpty]; exact (Option.some.inj e).symm⟩)
  | lst h z r => exact .inl ⟨_, SqL.of (R.sub _ _ h), by rw [← r.isEmpty]; exact (Option.some.inj e).symm⟩
  | @scr ns a h z => exact .inl ⟨_, R.sub.seq h, by rw [← (Option.some.inj e)]; cases ns <;> rfl⟩
  | dct h z r => cases e
  | @ref n a h =>
    dsimp only [truD] at e
    cases q : S[n]? with
    | none => rw [q] at e; cases e
    | some o =>
      rw [q] at e
      cases o with
      | lst xs =>
        obtain ⟨a', ha, _, vs, hv, z, r⟩ := R.sto n _ q
        rw [h] at ha; cases ha
        exact .inl ⟨vs, SqL.of hv, by rw [← r.isEmpty]; exact (Option.some.inj e).symm⟩
      | ins c fs => cases e
      | dct c => cases e
def tru (m : M D) : M Bool := bnd m fun d => ask fun S => truD S d
def tV (m : Nv → M D) : Nv → M Bool := fun ρ => tru (m ρ)
theorem Fin.tru {K : PySem.W.Frag} {mg : Str → Option Value} {G : Hp} {ψ : List Addr} {H : Hp} {W : XD} {m : M D} {S : Sto} {q : Bool → Sto → Hp → List Addr → Hp → Prop} {q' : D → Sto → Hp → List Addr → Hp → Prop} (h : Fin K mg G ψ H W (Nt.tru m S) q)
    (k : ∀ d b S' G' ψ' H', Ext G ψ H G' ψ' H' → Rep K mg G' ψ' S' H' → truD S' d = some b → q b S' G' ψ' H' → q' d S' G' ψ' H') : Fin K mg G ψ H W (m S) q' := by
  refine h.bnd fun d S1 G1 ψ1 H1 X1 R1 F1 => ?_
  obtain ⟨b, e, F2⟩ := F1.ask
  exact k d b S1 G1 ψ1 H1 X1 R1 e (F2.done Ext.refl R1)
theorem dt_val (h : DE X W a ma) (he : ∀ whole, isTrue a X.env whole = (do let v ← whole; standAt a.pos; holding [v] (truthy v)) := by intro _; rfl) : DT X W a (tV ma) := by
  refine ⟨PTimp (pt_truth h.pe he) ?_⟩
  rintro σ H Q ⟨G, ψ, S, ρ, R, E, F⟩
  exact ⟨G, ψ, S, ρ, R, E, F.tru fun d b S1 G1 ψ1 H1 _ R1 e q v dv => ⟨b, truD_ok R1 dv e, q⟩⟩
def tNo (t : Nv → M Bool) : Nv → M Bool := fun ρ => bnd (t ρ) fun b => ret (!b)
theorem dt_not {ta : Nv → M Bool} (h : DT X W a ta) : DT X W (.UnaryOp .Not a pos) (tNo ta) := by
  refine ⟨PTimp (pt_not h.pt) ?_⟩
  rintro σ H Q ⟨G, ψ, S, ρ, R, E, F⟩
  exact ⟨G, ψ, S, ρ, R, E, F.bnd fun b S1 G1 ψ1 H1 _ R1 F1 => F1.done Ext.refl R1⟩
def tIf' {α : Type} (t : Nv → M Bool) (x y : Nv → M α) : Nv → M α := fun ρ => bnd (t ρ) fun b => if b = true then x ρ else y ρ
def tTt : Nv → M Bool := fun _ => ret true
def tFf : Nv → M Bool := fun _ => ret false
variable {rest : List Expr} {ta tb : Nv → M Bool}
theorem dw_and1 (h : DT X W a ta) : DW X W (.BoolOp .And [a] pos) ta := ⟨pw_and1 h.pt⟩
theorem dw_or1 (h : DT X W a ta) : DW X W (.BoolOp .Or [a] pos) ta := ⟨pw_or1 h.pt⟩
theorem dw_and (ha : DT X W a ta) (hb : DW X W (.BoolOp .And (b :: rest) pos) tb) : DW X W (.BoolOp .And (a :: b :: rest) pos) (tIf' ta tb tFf) := by
  refine ⟨PWimp (pw_and ha.pt hb.pw) ?_⟩
  rintro σ H Q ⟨G, ψ, S, ρ, R, E, F⟩
  refine ⟨G, ψ, S, ρ, R, E, F.bnd fun b S1 G1 ψ1 H1 X1 R1 F1 => ?_⟩
  cases b with
  | true => exact ⟨G1, ψ1, S1, ρ, R1, E.up X1, F1⟩
  | false => exact F1.done Ext.refl R1
theorem dw_or (ha : DT X W a ta) (hb : DW X W (.BoolOp .Or (b :: rest) pos) tb) : DW X W (.BoolOp .Or (a :: b :: rest) pos) (tIf' ta tTt tb) := by
  refine ⟨PWimp (pw_or ha.pt hb.pw) ?_⟩
  rintro σ H Q ⟨G, ψ, S, ρ, R, E, F⟩
  refine ⟨G, ψ, S, ρ, R, E, F.bnd fun b S1 G1 ψ1 H1 X1 R1 F1 => ?_⟩
  cases b with
  | true => exact F1.done Ext.refl R1
  | false => exact ⟨G1, ψ1, S1, ρ, R1, E.up X1, F1⟩
theorem de_ifExp (hc : DT X W c ta) (ha : DE X W a ma) (hb : DE X W b mb) : DE X W (.IfExp c a b pos) (tIf' ta ma mb) := by
  refine ⟨PEimp (pe_ifExp hc.pt ha.pe hb.pe) ?_⟩
  rintro σ H Q ⟨G, ψ, S, ρ, R, E, F⟩
  refine ⟨G, ψ, S, ρ, R, E, F.bnd fun b S1 G1 ψ1 H1 X1 R1 F1 => ?_⟩
  cases b with
  | true => exact ⟨G1, ψ1, S1, ρ, R1, E.up X1, F1⟩
  | false => exact ⟨G1, ψ1, S1, ρ, R1, E.up X1, F1⟩
/-- and, or as values -/
def eAnd (ma mb : Nv → M D) : Nv → M D := fun ρ => bnd (ma ρ) fun x => bnd (ask fun S => truD S x) fun k => if k = true then mb ρ else ret x
def eOr (ma mb : Nv → M D) : Nv → M D := fun ρ => bnd (ma ρ) fun x => bnd (ask fun S => truD S x) fun k => if k = true then ret x else mb ρ
def eNot (ma : Nv → M D) : Nv → M D := fun ρ => bnd (ma ρ) fun x => bnd (ask fun S => truD S x) fun k => ret (.bl (!k))
theorem de_one {op} (h : DE X W a ma) : DE X W (.BoolOp op [a] pos) ma := ⟨pe_one h.pe⟩
theorem de_and (ha : DE X W a ma) (hb : DE X W (.BoolOp .And (b :: rest) pos) mb) : DE X W (.BoolOp .And (a :: b :: rest) pos) (eAnd ma mb) := by
  refine ⟨PEimp (pe_andT ha.pe hb.pe) ?_⟩
  rintro σ H Q ⟨G, ψ, S, ρ, R, E, F⟩
  refine ⟨G, ψ, S, ρ, R, E, F.bnd fun x S1 G1 ψ1 H1 X1 R1 F1 v dv => ?_⟩
  have F2 := F1.bnd (q' := fun k S2 G2 ψ2 H2 => S2 = S1 ∧ G2 = G1 ∧ ψ2 = ψ1 ∧ H2 = H1 → Fin X.K X.mg G1 ψ1 H1 (fun c d H' => W c d σ H') ((if k = true then mb ρ else ret x) S1) fun d _ G' ψ' H' => ∀ v, DV X.K G' ψ' d v → Q v H')
    fun k S2 G2 ψ2 H2 X2 R2 F2 ⟨e1, e2, e3, e4⟩ => by subst e1; subst e2; subst e3; subst e4; exact F2
  obtain ⟨k, e, F3⟩ := F2.ask
  have F4 := F3.done Ext.refl R1 ⟨rfl, rfl, rfl, rfl⟩
  refine ⟨k, truD_ok R1 dv e, ?_⟩
  cases k with
  | true => exact ⟨G1, ψ1, S1, ρ, R1, E.up X1, F4⟩
  | false => exact F4.done Ext.refl R1 v dv
theorem de_or (ha : DE X W a ma) (hb : DE X W (.BoolOp .Or (b :: rest) pos) mb) : DE X W (.BoolOp .Or (a :: b :: rest) pos) (eOr ma mb) := by
  refine ⟨PEimp (pe_orT ha.pe hb.pe) ?_⟩
  rintro σ H Q ⟨G, ψ, S, ρ, R, E, F⟩
  refine ⟨G, ψ, S, ρ, R, E, F.bnd fun x S1 G1 ψ1 H1 X1 R1 F1 v dv => ?_⟩
  have F2 := F1.bnd (q' := fun k S2 G2 ψ2 H2 => S2 = S1 ∧ G2 = G1 ∧ ψ2 = ψ1 ∧ H2 = H1 → Fin X.K X.mg G1 ψ1 H1 (fun c d H' => W c d σ H') ((if k = true then ret x else mb ρ) S1) fun d _ G' ψ' H' => ∀ v, DV X.K G' ψ' d v → Q v H')
    fun k S2 G2 ψ2 H2 X2 R2 F2 ⟨e1, e2, e3, e4⟩ => by subst e1; subst e2; subst e3; subst e4; exact F2
  obtain ⟨k, e, F3⟩ := F2.ask
  have F4 := F3.done Ext.refl R1 ⟨rfl, rfl, rfl, rfl⟩
  refine ⟨k, truD_ok R1 dv e, ?_⟩
  cases k with
  | true => exact F4.done Ext.refl R1 v dv
  | false => exact ⟨G1, ψ1, S1, ρ, R1, E.up X1, F4⟩
theorem de_not (ha : DE X W a ma) : DE X W (.UnaryOp .Not a pos) (eNot ma) := by
  refine ⟨PEimp (pe_notT ha.pe) ?_⟩
  rintro σ H Q ⟨G, ψ, S, ρ, R, E, F⟩
  refine ⟨G, ψ, S, ρ, R, E, F.bnd fun x S1 G1 ψ1 H1 X1 R1 F1 v dv => ?_⟩
  have F2 := F1.bnd (q' := fun k S2 G2 ψ2 H2 => S2 = S1 ∧ G2 = G1 ∧ ψ2 = ψ1 ∧ H2 = H1 → Q (.bl (!k)) H1)
    fun k S2 G2 ψ2 H2 X2 R2 F2 ⟨e1, e2, e3, e4⟩ => by subst e1; subst e2; subst e3; subst e4; exact F2.done Ext.refl R2 _ (.bl _)
  obtain ⟨k, e, F3⟩ := F2.ask
  exact ⟨k, truD_ok R1 dv e, F3.done Ext.refl R1 ⟨rfl, rfl, rfl, rfl⟩⟩
/-- a < b < c -/
def eCh (f g : F2) (ma mb mc : Nv → M D) : Nv → M D := fun ρ => bnd (ma ρ) fun x => bnd (mb ρ) fun y => bnd (ask fun S => f S x y) fun z => match z with
  | .bl true => bnd (mc ρ) fun w => ask fun S => g S y w
  | .bl false => ret (.bl false)
  | _ => bad
theorem chain_ {f g : F2} {op op' : CmpOp} (ho : OpD X (compareOp op) f) (ho' : OpD X (compareOp op') g) {σ : St} {H : Hp} {Q : VK} (h : tE X.K X.mg W (eCh f g ma mb mc) σ H Q) :
    tChain (fun x y H Q => ∃ G ψ S d1 d2 d, Rep X.K X.mg G ψ S H ∧ DV X.K G ψ d1 x ∧ DV X.K G ψ d2 y ∧ f S d1 d2 = some d ∧ ∀ G' H' v, Ext G ψ H G' ψ H' → Rep X.K X.mg G' ψ S H' → DV X.K G' ψ d v → Q v H')
      (fun x y H Q => ∃ G ψ S d1 d2 d, Rep X.K X.mg G ψ S H ∧ DV X.K G ψ d1 x ∧ DV X.K G ψ d2 y ∧ g S d1 d2 = some d ∧ ∀ G' H' v, Ext G ψ H G' ψ H' → Rep X.K X.mg G' ψ S H' → DV X.K G' ψ d v → Q v H') (tE X.K X.mg W ma) (tE X.K X.mg W mb) (tE X.K X.mg W mc) σ H Q := by
  obtain ⟨G, ψ, S, ρ, R, E, F⟩ := h
  refine ⟨G, ψ, S, ρ, R, E, F.bnd fun x S1 G1 ψ1 H1 X1 R1 F1 v dv => ?_⟩
  refine ⟨G1, ψ1, S1, ρ, R1, E.up X1, F1.bnd fun y S2 G2 ψ2 H2 X2 R2 F2 u du => ?_⟩
  have F3 := F2.bnd (q' := fun z S3 G3 ψ3 H3 => S3 = S2 → ψ3 = ψ2 → Fin X.K X.mg G3 ψ3 H3 (fun c d H' => W c d σ H') ((match z with | D.bl true => bnd (mc ρ) fun w => ask fun S => g S y w | D.bl false => ret (.bl false) | _ => Nt.bad : M D) S2) fun d _ G' ψ' H' => ∀ v, DV X.K G' ψ' d v → Q v H')
    fun k S3 G3 ψ3 H3 X3 R3 F3 e1 e2 => by subst e1; subst e2; exact F3
  obtain ⟨z, e, F4⟩ := F3.ask
  refine ⟨G2, ψ2, S2, x, y, z, R2, X2.dv dv, du, e, fun G3 H3 v3 X3 R3 dz => ?_⟩
  have F5 := F4 G3 ψ2 H3 X3 R3 rfl rfl
  cases dz with
  | bl k =>
    refine ⟨k, rfl, ?_⟩
    cases k with
    | false => exact F5.done Ext.refl R3 _ (.bl false)
    | true =>
      refine ⟨G3, ψ2, S2, ρ, R3, (E.up (X1.trans X2)).up X3, F5.bnd fun w S4 G4 ψ4 H4 X4 R4 F6 v4 dw => ?_⟩
      obtain ⟨d, e5, F7⟩ := F6.ask
      exact ⟨G4, ψ4, S4, y, w, d, R4, X4.dv (X3.dv du), dw, e5, fun G' H' v X' R' dv => F7.done X' R' v dv⟩
  | _ => exact F5.elim
theorem de_chain {f g : F2} {op op' : CmpOp} (ho : OpD X (compareOp op) f) (ho' : OpD X (compareOp op') g) (ha : DE X W a ma) (hb : DE X W b mb) (hc : DE X W c mc) (hm : lastMarks [op, op'] [b, c] = false := by rfl) : DE X W (.Compare a [op, op'] [b, c] pos) (eCh f g ma mb mc) :=
  ⟨PEimp (pe_chain ho ho' ha.pe hb.pe hc.pe hm) fun σ H Q h => chain_ ho ho' h⟩
theorem dt_chain {f g : F2} {op op' : CmpOp} (ho : OpD X (compareOp op) f) (ho' : OpD X (compareOp op') g) (ha : DE X W a ma) (hb : DE X W b mb) (hc : DE X W c mc) (hm : lastMarks [op, op'] [b, c] = false := by rfl) : DT X W (.Compare a [op, op'] [b, c] pos) (tB' (eCh f g ma mb mc)) := by
  refine ⟨PTimp (pt_chain ho ho' ha.pe hb.pe hc.pe hm) fun σ H Q h => ?_⟩
  obtain ⟨G, ψ, S, ρ, R, E, F⟩ := h
  have F' := F.asB (q' := fun d S' G' ψ' H' => ∀ v, DV X.K G' ψ' d v → ∃ k, v = V.bl k ∧ Q k H') fun b S1 G1 ψ1 H1 _ _ q v dv => by
    cases dv
    exact ⟨b, rfl, q⟩
  exact chain_ ho ho' ⟨G, ψ, S, ρ, R, E, F'⟩

/-! ### argument lists, displays -/
def aNil : Nv → M (List D) := fun _ => ret []
def aCons (m : Nv → M D) (r : Nv → M (List D)) : Nv → M (List D) := fun ρ => bnd (m ρ) fun d => bnd (r ρ) fun ds => ret (d :: ds)
/-- the items of a list, a tuple -/
def seqD (S : Sto) : D → Option (List D)
  | .tup xs => some xs
  | .lst xs => some xs
  | .scr ns => some (ns.map D.int)
  | .ref n => match S[n]? with | some (.lst xs) => some xs | _ => none
  | _ => none
def aStar (m : Nv → M D) (r : Nv → M (List D)) : Nv → M (List D) := fun ρ => bnd (m ρ) fun d => bnd (ask fun S => seqD S d) fun xs => bnd (r ρ) fun ds => ret (xs ++ ds)
variable {es : List Expr} {mr : Nv → M (List D)}
theorem da_nil : DA X W [] aNil := ⟨PAimp pa_nil (by
  rintro σ H Q ⟨G, ψ, S, ρ, R, E, F⟩
  exact F.done Ext.refl R [] .nil)⟩
theorem da_cons (ha : DE X W a ma) (hr : DA X W es mr) (hs : starEach (a :: es) X.env = (false, eval a X.env) :: starEach es X.env := by rfl) : DA X W (a :: es) (aCons ma mr) := by
  refine ⟨PAimp (pa_cons ha.pe hr.pa hs) ?_⟩
  rintro σ H Q ⟨G, ψ, S, ρ, R, E, F⟩
  refine ⟨G, ψ, S, ρ, R, E, F.bnd fun x S1 G1 ψ1 H1 X1 R1 F1 v dv => ?_⟩
  refine ⟨G1, ψ1, S1, ρ, R1, E.up X1, F1.bnd fun ds S2 G2 ψ2 H2 X2 R2 F2 vs dvs => ?_⟩
  exact F2.done Ext.refl R2 _ (.cons (X2.dv dv) dvs)
theorem seqD_ok {K : PySem.W.Frag} {mg : Str → Option Value} {G : Hp} {ψ : List Addr} {S : Sto} {H : Hp} (R : Rep K mg G ψ S H) {d : D} {v : V} (r : DV K G ψ d v) {xs : List D} (e : seqD S d = some xs) :
    ∃ p vs, v = .ref p ∧ (SqT K H p vs ∨ SqL K H p vs) ∧ vs.length ≤ sizeLine ∧ DVs K G ψ xs vs := by
  cases r with
  | tup h z r => cases e; exact ⟨_, _, rfl, .inl (Same.seqT R.sub h), z, r⟩
  | lst h z r => cases e; exact ⟨_, _, rfl, .inr (SqL.of (R.sub _ _ h)), z, r⟩
  | @scr ns a h z => cases e; exact ⟨_, _, rfl, .inr (R.sub.seq h), by rw [List.length_map]; exact z, DVs.ints ns⟩
  | @ref n a h =>
    dsimp only [seqD] at e
    cases q : S[n]? with
    | none => rw [q] at e; cases e
    | some o =>
      rw [q] at e
      cases o with
      | lst ys =>
        obtain ⟨a', ha, _, vs, hv, z, r⟩ := R.sto n _ q
        rw [h] at ha; cases ha
        cases e
        exact ⟨_, vs, rfl, .inr (SqL.of hv), z, r⟩
      | ins c fs => cases e
      | dct c => cases e
  | _ => cases e
theorem da_star {p : Pos} (ha : DE X W a ma) (hr : DA X W es mr) (hs : starEach (.Starred a p :: es) X.env = (true, eval a X.env) :: starEach es X.env := by rfl) : DA X W (.Starred a p :: es) (aStar ma mr) := by
  refine ⟨PAimp (StX.pa_star ha.pe hr.pa hs) ?_⟩
  rintro σ H Q ⟨G, ψ, S, ρ, R, E, F⟩
  refine ⟨G, ψ, S, ρ, R, E, F.bnd fun x S1 G1 ψ1 H1 X1 R1 F1 v dv => ?_⟩
  have F2 := F1.bnd (q' := fun xs S3 G3 ψ3 H3 => S3 = S1 ∧ G3 = G1 ∧ ψ3 = ψ1 ∧ H3 = H1 → Fin X.K X.mg G1 ψ1 H1 (fun c d H' => W c d σ H') (bnd (mr ρ) (fun ds => ret (xs ++ ds)) S1) fun ds _ G' ψ' H' => ∀ vs, DVs X.K G' ψ' ds vs → Q vs H')
    fun xs S2 G2 ψ2 H2 X2 R2 F2 ⟨e1, e2, e3, e4⟩ => by subst e1; subst e2; subst e3; subst e4; exact F2
  obtain ⟨xs, e, F3⟩ := F2.ask
  have F4 := F3.done Ext.refl R1 ⟨rfl, rfl, rfl, rfl⟩
  obtain ⟨p, vs, rfl, hq, z, r⟩ := seqD_ok R1 dv e
  refine ⟨p, vs, rfl, hq, ⟨G1, ψ1, S1, ρ, R1, E.up X1, F4.bnd fun ds S5 G5 ψ5 H5 X5 R5 F5 us dvs => ?_⟩⟩
  exact F5.done Ext.refl R5 _ (DVs.app (X5.dvs r) dvs)
/-- a list that is short enough -/
def lim (m : Nv → M (List D)) : Nv → M (List D) := fun ρ => bnd (m ρ) fun ds => if ds.length ≤ sizeLine then ret ds else bad
def eTup (m : Nv → M (List D)) : Nv → M D := fun ρ => bnd (lim m ρ) fun ds => ret (.tup ds)
/-- a new list becomes frozen, an object of the store -/
def eFrz (m : Nv → M (List D)) : Nv → M D := fun ρ => bnd (m ρ) fun ds => ret (.lst ds)
def newO (o : O) : M D := fun S => .ok (.ref S.length) (S ++ [o])
def eNew (m : Nv → M (List D)) : Nv → M D := fun ρ => bnd (m ρ) fun ds => newO (.lst ds)
theorem Fin.lim {K : PySem.W.Frag} {mg : Str → Option Value} {G : Hp} {ψ : List Addr} {H : Hp} {W : XD} {m : M (List D)} {S : Sto} {q q' : List D → Sto → Hp → List Addr → Hp → Prop} (h : Fin K mg G ψ H W (Nt.bnd m (fun ds : List D => if ds.length ≤ sizeLine then ret ds else Nt.bad) S) q)
    (k : ∀ ds S' G' ψ' H', Ext G ψ H G' ψ' H' → Rep K mg G' ψ' S' H' → ds.length ≤ sizeLine → Fin K mg G' ψ' H' W (.ok ds S') q → q' ds S' G' ψ' H') : Fin K mg G ψ H W (m S) q' := by
  refine h.bnd fun ds S1 G1 ψ1 H1 X1 R1 F1 => ?_
  by_cases hl : ds.length ≤ sizeLine
  · rw [if_pos hl] at F1; exact k ds S1 G1 ψ1 H1 X1 R1 hl F1
  · rw [if_neg hl] at F1; exact F1.elim
theorem de_tup {x1} (h : DA X W es mr) : DE X W (.Tuple es x1 pos) (eTup mr) := by
  refine ⟨PEimp (pe_tup h.pa) ?_⟩
  rintro σ H Q ⟨G, ψ, S, ρ, R, E, F⟩
  have F0 := F.bnd (q' := fun ds S' G' ψ' H' => ∀ v, DV X.K G' ψ' (.tup ds) v → Q v H') fun ds S1 G1 ψ1 H1 X1 R1 F1 => F1.done Ext.refl R1
  refine ⟨G, ψ, S, ρ, R, E, Fin.lim F0 fun ds S1 G1 ψ1 H1 X1 R1 hl F1 vs dvs => ⟨by rw [← dvs.length]; exact hl, fun p hp => ?_⟩⟩
  have x := Ext.lay (o := .tup vs) R1 hp
  exact F1 _ _ _ x (R1.lay hp) _ (.tup (SqT.of upd_same) (by rw [← dvs.length]; exact hl) (x.dvs dvs))
theorem Ext.back {K : PySem.W.Frag} {mg : Str → Option Value} {G G' : Hp} {ψ ψ' : List Addr} {S S' : Sto} {H H' : Hp} {p : Addr} (R : Rep K mg G ψ S H) (x : Ext G ψ H G' ψ' H') (R' : Rep K mg G' ψ' S' H') (h : H' p = none) : H p = none := by
  cases e : H p with
  | none => rfl
  | some o =>
    exfalso
    cases g : G p with
    | some o' => rw [R'.sub p o' (x.g p o' g)] at h; cases h
    | none =>
      by_cases hp : p ∈ ψ
      · obtain ⟨n, hn, en⟩ := List.getElem_of_mem hp
        have e1 : ψ[n]? = some p := by rw [List.getElem?_eq_getElem hn, en]
        exact (R'.notMem h) (List.mem_of_getElem? (x.p n p e1))
      · rw [(x.fr p o e g hp).1] at h; cases h
theorem dn_lst (h : DA X W es mr) : DN X W (.List es pos) (lim mr) := by
  refine ⟨PEimp (pe_lst h.pa) ?_⟩
  rintro σ H Q ⟨G, ψ, S, ρ, R, E, F⟩
  refine ⟨G, ψ, S, ρ, R, E, Fin.lim F fun ds S1 G1 ψ1 H1 X1 R1 hl F1 vs dvs => ⟨by rw [← dvs.length]; exact hl, fun p hp => ?_⟩⟩
  exact F1.done (Ext.laid hp) (R1.priv (R1.gfree hp) (R1.notMem hp)) p vs dvs (by rw [← dvs.length]; exact hl) (X1.back R R1 hp) upd_same (R1.gfree hp) (R1.notMem hp)
theorem Fin.bnd0 {α β : Type} {K : PySem.W.Frag} {mg : Str → Option Value} {G : Hp} {ψ : List Addr} {Hh H : Hp} {W : XD} {m : M α} {f : α → M β} {S : Sto} {q : β → Sto → Hp → List Addr → Hp → Prop} {q' : α → Sto → Hp → List Addr → Hp → Prop} (h : Fin K mg G ψ Hh W (Nt.bnd m f S) q)
    (hx : Ext G ψ Hh G ψ H) (k : ∀ a S' G' ψ' H', Ext G ψ H G' ψ' H' → Rep K mg G' ψ' S' H' → Fin K mg G ψ Hh W (f a S') q → q' a S' G' ψ' H') : Fin K mg G ψ H W (m S) q' := by
  unfold Nt.bnd at h
  cases e : m S with
  | ok a S' => rw [e] at h; exact fun G2 ψ2 H2 y R => k _ _ _ _ _ y R h
  | ex c fs S' => rw [e] at h; exact fun G2 ψ2 H2 cls dx y R q => h G2 ψ2 H2 cls dx (hx.trans y) R q
  | bad => rw [e] at h; exact h
theorem frz_read {σ : St} {H : Hp} {Q : VK} : tE X.K X.mg W (eFrz mr) σ H Q → tN X.K X.mg W mr σ H Q := by
  rintro ⟨G, ψ, S, ρ, R, E, F⟩
  refine ⟨G, ψ, S, ρ, R, E, F.bnd0 Ext.refl fun ds S1 G1 ψ1 H1 X1 R1 F1 p vs dvs hl h0 hp hg hm => ?_⟩
  have sg : Same G1 (upd G1 p (.lst vs)) := same_upd hg
  refine F1 _ _ _ ⟨X1.g.trans sg, X1.p, fun b o e g n => ?_⟩ (R1.freeze hp hg hm) _ (.lst upd_same hl (dvs.up sg fun _ _ e => e))
  obtain ⟨h1, g1, n1⟩ := X1.fr b o e g n
  exact ⟨h1, by rw [upd_ne (ne_of_none e h0)]; exact g1, n1⟩
theorem snoc_get {α : Type} {l : List α} {x : α} {n : Nat} {a : α} (e : l[n]? = some a) : (l ++ [x])[n]? = some a := by
  rw [List.getElem?_append_left (List.getElem?_eq_some_iff.mp e).1]; exact e
theorem new_read {σ : St} {H : Hp} {Q : VK} : tE X.K X.mg W (eNew mr) σ H Q → tN X.K X.mg W mr σ H Q := by
  rintro ⟨G, ψ, S, ρ, R, E, F⟩
  refine ⟨G, ψ, S, ρ, R, E, F.bnd0 Ext.refl fun ds S1 G1 ψ1 H1 X1 R1 F1 p vs dvs hl h0 hp hg hm => ?_⟩
  have R2 : Rep X.K X.mg G1 (ψ1 ++ [p]) (S1 ++ [.lst ds]) H1 := R1.keep hg hm ⟨vs, hp, hl, dvs.up (Same.refl _) fun _ _ e => snoc_get e⟩
  refine F1 _ _ _ ⟨X1.g, fun n b e => snoc_get (X1.p n b e), fun b o e g n => ?_⟩ R2 _ (.ref (by rw [← R1.len]; simp))
  obtain ⟨h1, g1, n1⟩ := X1.fr b o e g n
  refine ⟨h1, g1, fun z => ?_⟩
  rcases List.mem_append.mp z with z | z
  · exact n1 z
  · exact ne_of_none e h0 (List.mem_singleton.mp z)
theorem de_frz (h : DN X W a mr) : DE X W a (eFrz mr) := ⟨PEimp h.pe fun _ _ _ q => frz_read q⟩
theorem de_new (h : DN X W a mr) : DE X W a (eNew mr) := ⟨PEimp h.pe fun _ _ _ q => new_read q⟩
end
end Nt

namespace Nt
open PySem PySem.Spec L2
open PyProof.Rows hiding St

/-! ### statements -/
inductive Fl where
  | nx (ρ : Nv) | rt (d : D) | bk (ρ : Nv) | ct (ρ : Nv)
inductive Sr where
  | ok (f : Fl) (S : Sto) | ex (c : Str) (fs : List (Str × D)) (ρ : Nv) (S : Sto) | bad
abbrev SM := Nv → Sto → Sr
def FinS (K : PySem.W.Frag) (mg : Str → Option Value) (G : Hp) (ψ : List Addr) (H : Hp) (W : WX) (D : Ends) (r : Sr) : Prop :=
  match r with
  | .ok (.nx ρ) S => ∀ G' ψ' H' σ', Ext G ψ H G' ψ' H' → Rep K mg G' ψ' S H' → EVL K G' ψ' ρ σ' → D.nx σ' H'
  | .ok (.rt d) S => ∀ G' ψ' H' v, Ext G ψ H G' ψ' H' → Rep K mg G' ψ' S H' → DV K G' ψ' d v → D.rt v H'
  | .ok (.bk ρ) S => ∀ G' ψ' H' σ', Ext G ψ H G' ψ' H' → Rep K mg G' ψ' S H' → EVL K G' ψ' ρ σ' → D.bk σ' H'
  | .ok (.ct ρ) S => ∀ G' ψ' H' σ', Ext G ψ H G' ψ' H' → Rep K mg G' ψ' S H' → EVL K G' ψ' ρ σ' → D.ct σ' H'
  | .ex c fs ρ S => ∀ G' ψ' H' σ' cls dx, Ext G ψ H G' ψ' H' → Rep K mg G' ψ' S H' → EVL K G' ψ' ρ σ' → XV K mg G' ψ' c fs cls dx → W cls dx σ' H'
  | .bad => False
def tSt (K : PySem.W.Frag) (mg : Str → Option Value) (W : WX) (m : SM) : TS := fun D σ H => ∃ G ψ S ρ, Rep K mg G ψ S H ∧ EVL K G ψ ρ σ ∧ FinS K mg G ψ H W D (m ρ S)
structure DS (X : Cx) (W : WX) (st : Stmt) (m : SM) : Prop where ps : PS X st (tSt X.K X.mg W m)
structure DSs (X : Cx) (W : WX) (st : List Stmt) (m : SM) : Prop where pss : PSs X st (tSt X.K X.mg W m)
/-- an expression's answer, then a statement's -/
def sB {α : Type} (m : Nv → M α) (k : α → SM) : SM := fun ρ S => match m ρ S with
  | .ok a S' => k a ρ S' | .ex c fs S' => .ex c fs ρ S' | .bad => .bad
section
variable {α : Type} {K : PySem.W.Frag} {mg : Str → Option Value} {G G' : Hp} {ψ ψ' : List Addr} {H H' : Hp} {W : WX} {E : Ends}
theorem FinS.step {r : Sr} (x : Ext G ψ H G' ψ' H') (h : FinS K mg G ψ H W E r) : FinS K mg G' ψ' H' W E r := by
  cases r with
  | ok f S =>
    cases f with
    | nx ρ => exact fun G2 ψ2 H2 σ y R e => h G2 ψ2 H2 σ (x.trans y) R e
    | rt d => exact fun G2 ψ2 H2 σ y R e => h G2 ψ2 H2 σ (x.trans y) R e
    | bk ρ => exact fun G2 ψ2 H2 σ y R e => h G2 ψ2 H2 σ (x.trans y) R e
    | ct ρ => exact fun G2 ψ2 H2 σ y R e => h G2 ψ2 H2 σ (x.trans y) R e
  | ex c fs ρ S => exact fun G2 ψ2 H2 σ cls dx y R e q => h G2 ψ2 H2 σ cls dx (x.trans y) R e q
  | bad => exact h
theorem FinS.sB {m : Nv → M α} {k : α → SM} {ρ : Nv} {σ : St} {S : Sto} {q : α → Sto → Hp → List Addr → Hp → Prop} (h : FinS K mg G ψ H W E (Nt.sB m k ρ S)) (e : EVL K G ψ ρ σ)
    (w : ∀ a S' G' ψ' H', Ext G ψ H G' ψ' H' → Rep K mg G' ψ' S' H' → FinS K mg G' ψ' H' W E (k a ρ S') → q a S' G' ψ' H') : Fin K mg G ψ H (fun c d H' => W c d σ H') (m ρ S) q := by
  unfold Nt.sB at h
  cases em : m ρ S with
  | ok a S' => rw [em] at h; exact fun G2 ψ2 H2 y R => w _ _ _ _ _ y R (h.step y)
  | ex c fs S' => rw [em] at h; exact fun G2 ψ2 H2 cls dx y R q => h G2 ψ2 H2 σ cls dx y R (e.up y) q
  | bad => rw [em] at h; exact h
end

section
variable {X : Cx} {W : WX} {st : Stmt} {rest : List Stmt} {m m' : SM} {e : Expr} {me : Nv → M D} {pos : Pos}
def sNx : SM := fun ρ S => .ok (.nx ρ) S
def sSq (m m' : SM) : SM := fun ρ S => match m ρ S with
  | .ok (.nx ρ') S' => m' ρ' S' | r => r
theorem dss_nil : DSs X W [] sNx := ⟨PSsimp pss_nil (by
  rintro D σ H ⟨G, ψ, S, ρ, R, E, F⟩
  exact F _ _ _ _ Ext.refl R E)⟩
theorem dss_cons (h1 : DS X W st m) (h2 : DSs X W rest m') : DSs X W (st :: rest) (sSq m m') := by
  refine ⟨PSsimp (pss_cons h1.ps h2.pss) ?_⟩
  rintro D σ H ⟨G, ψ, S, ρ, R, E, F⟩
  refine ⟨G, ψ, S, ρ, R, E, ?_⟩
  unfold sSq at F
  cases em : m ρ S with
  | ok f S' =>
    rw [em] at F
    cases f with
    | nx ρ' => exact fun G2 ψ2 H2 σ2 y R2 E2 => ⟨G2, ψ2, S', ρ', R2, E2, F.step y⟩
    | rt d => exact F
    | bk ρ' => exact F
    | ct ρ' => exact F
  | ex c fs ρ' S' => rw [em] at F; exact F
  | bad => rw [em] at F; exact F
theorem dss_one (h1 : DS X W st m) : DSs X W [st] m := ⟨pss_one h1.ps⟩
def sBk : SM := fun ρ S => .ok (.bk ρ) S
def sCt : SM := fun ρ S => .ok (.ct ρ) S
theorem ds_pass : DS X W (.Pass pos) sNx := ⟨PSimp ps_pass (by
  rintro D σ H ⟨G, ψ, S, ρ, R, E, F⟩
  exact F _ _ _ _ Ext.refl R E)⟩
theorem ds_break : DS X W (.Break pos) sBk := ⟨PSimp ps_break (by
  rintro D σ H ⟨G, ψ, S, ρ, R, E, F⟩
  exact F _ _ _ _ Ext.refl R E)⟩
theorem ds_continue : DS X W (.Continue pos) sCt := ⟨PSimp ps_continue (by
  rintro D σ H ⟨G, ψ, S, ρ, R, E, F⟩
  exact F _ _ _ _ Ext.refl R E)⟩
theorem ds_doc {x j pos'} : DS X W (.Expr (.Constant (.str x) j pos) pos') sNx := ⟨PSimp ps_doc (by
  rintro D σ H ⟨G, ψ, S, ρ, R, E, F⟩
  exact F _ _ _ _ Ext.refl R E)⟩
def sEx (me : Nv → M D) : SM := sB me fun _ => sNx
theorem ds_expr (he : DE X W e me) (hs : swapsWith e none pos.line X.env = pure false := by rfl) : DS X W (.Expr e pos) (sEx me) := by
  refine ⟨PSimp (ps_expr he.pe hs) ?_⟩
  rintro D σ H ⟨G, ψ, S, ρ, R, E, F⟩
  exact ⟨G, ψ, S, ρ, R, E, F.sB E fun a S' G' ψ' H' y R' F' v dv => F' _ _ _ _ Ext.refl R' (E.up y)⟩
def sRt (me : Nv → M D) : SM := sB me fun d _ S => .ok (.rt d) S
theorem ds_ret (he : DE X W e me) : DS X W (.Return (some e) pos) (sRt me) := by
  refine ⟨PSimp (ps_ret he.pe) ?_⟩
  rintro D σ H ⟨G, ψ, S, ρ, R, E, F⟩
  exact ⟨G, ψ, S, ρ, R, E, F.sB E fun a S' G' ψ' H' y R' F' v dv => F' _ _ _ _ Ext.refl R' dv⟩
def sRn : SM := fun _ S => .ok (.rt .non) S
theorem ds_retN : DS X W (.Return none pos) sRn := ⟨PSimp ps_retN (by
  rintro D σ H ⟨G, ψ, S, ρ, R, E, F⟩
  exact F _ _ _ _ Ext.refl R .non)⟩
def sIf (t : Nv → M Bool) (x y : SM) : SM := sB t fun b => if b = true then x else y
theorem ds_if {c : Expr} {a b : List Stmt} {t : Nv → M Bool} (hc : DT X W c t) (ha : DSs X W a m) (hb : DSs X W b m') : DS X W (.If c a b pos) (sIf t m m') := by
  refine ⟨PSimp (ps_if hc.pt ha.pss hb.pss) ?_⟩
  rintro D σ H ⟨G, ψ, S, ρ, R, E, F⟩
  refine ⟨G, ψ, S, ρ, R, E, F.sB E fun b S' G' ψ' H' y R' F' => ?_⟩
  cases b with
  | true => exact ⟨G', ψ', S', ρ, R', E.up y, F'⟩
  | false => exact ⟨G', ψ', S', ρ, R', E.up y, F'⟩
/-- x = e -/
def sSet (i : Nat) (me : Nv → M D) : SM := sB me fun d ρ S => .ok (.nx (ρ.set i (some d))) S
theorem set_read {i : Nat} {D : Ends} {σ : St} {H : Hp} : tSt X.K X.mg W (sSet i me) D σ H → tE X.K X.mg W me σ H fun v H' => D.nx (σ.set i (some v)) H' := by
  rintro ⟨G, ψ, S, ρ, R, E, F⟩
  exact ⟨G, ψ, S, ρ, R, E, F.sB E fun a S' G' ψ' H' y R' F' v dv => F' _ _ _ _ Ext.refl R' ((E.up y).set i dv)⟩
theorem ds_set (i : Nat) {x : Str} {pos' : Pos} (he : DE X W e me) (hN : X.N.Nodup) (hi : X.N[i]? = some x := by rfl) (hx : Loc X.env.scope x := by first | exact Or.inl rfl | exact Or.inr rfl) (hs : swapsWith e (some (.Name x pos')) pos.line X.env = pure false := by rfl)
    (hf : X.fn x = true ∨ X.env.scope.names.lookup x = some .local := by first | exact .inl rfl | exact .inr rfl | assumption) : DS X W (.Assign [.Name x pos'] e pos) (sSet i me) := by
  refine ⟨PSimp (ps_set hN hi hx he.pe hs hf) ?_⟩
  rintro D σ H ⟨G, ψ, S, ρ, R, E, F⟩
  exact ⟨G, ψ, S, ρ, R, E, F.sB E fun a S' G' ψ' H' y R' F' v dv => F' _ _ _ _ Ext.refl R' ((E.up y).set i dv)⟩

/-! ### targets -/
abbrev TMd := D → Nv → Sto → Option (Nv × Sto)
abbrev TMs := List D → Nv → Sto → Option (Nv × Sto)
def tGt (K : PySem.W.Frag) (mg : Str → Option Value) (f : TMd) : TG := fun v σ H Q => ∃ G ψ S ρ d ρ' S', Rep K mg G ψ S H ∧ EVL K G ψ ρ σ ∧ DV K G ψ d v ∧ f d ρ S = some (ρ', S') ∧
  ∀ G' ψ' H' σ', Ext G ψ H G' ψ' H' → Rep K mg G' ψ' S' H' → EVL K G' ψ' ρ' σ' → Q σ' H'
def tGts (K : PySem.W.Frag) (mg : Str → Option Value) (f : TMs) : TGs := fun vs σ H Q => ∃ G ψ S ρ ds ρ' S', Rep K mg G ψ S H ∧ EVL K G ψ ρ σ ∧ DVs K G ψ ds vs ∧ f ds ρ S = some (ρ', S') ∧
  ∀ G' ψ' H' σ', Ext G ψ H G' ψ' H' → Rep K mg G' ψ' S' H' → EVL K G' ψ' ρ' σ' → Q σ' H'
structure DG (X : Cx) (t : Expr) (f : TMd) : Prop where pg : PG X t (tGt X.K X.mg f)
structure DGs (X : Cx) (t : List Expr) (f : TMs) : Prop where pgs : PGs X t (tGts X.K X.mg f)
theorem PGimp {X : Cx} {e : Expr} {t t' : TG} (h : PG X e t) (w : ∀ v σ H Q, t' v σ H Q → t v σ H Q) : PG X e t' := ⟨fun pins s σ H v u Q I r q => h.run pins s σ H v u Q I r (w v σ H Q q)⟩
theorem PGsimp {X : Cx} {e : List Expr} {t t' : TGs} (h : PGs X e t) (w : ∀ v σ H Q, t' v σ H Q → t v σ H Q) : PGs X e t' := ⟨fun pins s σ H v u Q I r q => h.run pins s σ H v u Q I r (w v σ H Q q)⟩
def gN (i : Nat) : TMd := fun d ρ S => some (ρ.set i (some d), S)
def gTp (n : Nat) (f : TMs) : TMd := fun d ρ S => match d with | .tup ds => if ds.length = n then f ds ρ S else none | _ => none
def gNl : TMs := fun ds ρ S => match ds with | [] => some (ρ, S) | _ => none
def gCs (f : TMd) (g : TMs) : TMs := fun ds ρ S => match ds with | [] => none | d :: r => (f d ρ S).bind fun (ρ', S') => g r ρ' S'
theorem dg_name (i : Nat) {x : Str} (hN : X.N.Nodup) (hi : X.N[i]? = some x := by rfl) (hx : Loc X.env.scope x := by first | exact Or.inl rfl | exact Or.inr rfl) (hf : X.fn x = true ∨ X.env.scope.names.lookup x = some .local := by first | exact .inl rfl | exact .inr rfl | assumption) : DG X (.Name x pos) (gN i) := by
  refine ⟨PGimp (pg_name hN hi hx hf) ?_⟩
  rintro v σ H Q ⟨G, ψ, S, ρ, d, ρ', S', R, E, dv, e, k⟩
  cases e
  exact k _ _ _ _ Ext.refl R (E.set i dv)
theorem dgs_nil : DGs X [] gNl := by
  refine ⟨PGsimp pgs_nil ?_⟩
  rintro vs σ H Q ⟨G, ψ, S, ρ, ds, ρ', S', R, E, dvs, e, k⟩
  cases dvs with
  | nil => cases e; exact ⟨rfl, k _ _ _ _ Ext.refl R E⟩
  | cons _ _ => cases e
theorem dgs_cons {t : Expr} {ts : List Expr} {f : TMd} {g : TMs} (h1 : DG X t f) (h2 : DGs X ts g)
    (hs : (assignEach (t :: ts) X.env).map (·.2) = assign t X.env :: (assignEach ts X.env).map (·.2) := by rfl) : DGs X (t :: ts) (gCs f g) := by
  refine ⟨PGsimp (pgs_cons h1.pg h2.pgs hs) ?_⟩
  rintro vs σ H Q ⟨G, ψ, S, ρ, ds, ρ', S', R, E, dvs, e, k⟩
  cases dvs with
  | nil => cases e
  | @cons d v ds vs r1 r2 =>
    dsimp only [gCs] at e
    cases q : f d ρ S with
    | none => rw [q] at e; cases e
    | some p =>
      obtain ⟨ρ1, S1⟩ := p
      rw [q] at e
      refine ⟨v, vs, rfl, G, ψ, S, ρ, d, ρ1, S1, R, E, r1, q, fun G1 ψ1 H1 σ1 x R1 E1 => ?_⟩
      exact ⟨G1, ψ1, S1, ρ1, ds, ρ', S', R1, E1, x.dvs r2, e, fun G2 ψ2 H2 σ2 y R2 E2 => k _ _ _ _ (x.trans y) R2 E2⟩
theorem dg_tup {es : List Expr} {j : Nat} {g : TMs} {n : Nat} (hc : X.calm = true) (h : DGs X es g)
    (hn : (assignEach es X.env).length = n := by rfl) (hst : (assignEach es X.env).findIdx? (·.1) = none := by rfl) : DG X (.Tuple es j pos) (gTp n g) := by
  refine ⟨PGimp (pg_tup hc h.pgs hn hst) ?_⟩
  rintro v σ H Q ⟨G, ψ, S, ρ, d, ρ', S', R, E, dv, e, k⟩
  cases dv with
  | @tup ds vs a hq z r =>
    dsimp only [gTp] at e
    by_cases hl : ds.length = n
    · rw [if_pos hl] at e
      exact ⟨a, vs, rfl, Same.seqT R.sub hq, r.length ▸ hl, G, ψ, S, ρ, ds, ρ', S', R, E, r, e, k⟩
    · rw [if_neg hl] at e; cases e
  | _ => cases e
/-- target = e -/
def sAs (me : Nv → M D) (f : TMd) : SM := sB me fun d ρ S => match f d ρ S with | some (ρ', S') => .ok (.nx ρ') S' | none => .bad
theorem ds_asg {tg : Expr} {f : TMd} (he : DE X W e me) (hg : DG X tg f) (hs : swapsWithSole [tg] e pos.line X.env = pure false := by rfl) (hw : swappedStores [tg] e X.env = pure none := by rfl)
    (h1 : (assignEach [tg] X.env).map (·.2) = [assign tg X.env] := by rfl) : DS X W (.Assign [tg] e pos) (sAs me f) := by
  refine ⟨PSimp (ps_asg he.pe hg.pg hs hw h1) ?_⟩
  rintro D σ H ⟨G, ψ, S, ρ, R, E, F⟩
  refine ⟨G, ψ, S, ρ, R, E, F.sB E fun d S1 G1 ψ1 H1 y R1 F1 v dv => ?_⟩
  cases q : f d ρ S1 with
  | none => rw [q] at F1; exact F1.elim
  | some p =>
    obtain ⟨ρ2, S2⟩ := p
    rw [q] at F1
    exact ⟨G1, ψ1, S1, ρ, d, ρ2, S2, R1, E.up y, dv, q, fun G2 ψ2 H2 σ2 x R2 E2 => F1 _ _ _ _ x R2 E2⟩
/-- a, b = x, y: plain local names -/
def sPar (i j : Nat) (ma mb : Nv → M D) : SM := sB (aCons ma (aCons mb aNil)) fun ds ρ S => match ds with | [d, d'] => .ok (.nx ((ρ.set i (some d)).set j (some d'))) S | _ => .bad
theorem ds_par (i j : Nat) {x y : Str} {a b : Expr} {ma mb : Nv → M D} {px py : Pos} {kt k2 pt pt2} (ha : DE X W a ma) (hb : DE X W b mb) (hc : X.calm = true) (hN : X.N.Nodup) (hi : X.N[i]? = some x := by rfl) (hj : X.N[j]? = some y := by rfl) (hij : i ≠ j := by decide)
    (hx : X.env.scope.names.lookup x = some .local := by rfl) (hy : X.env.scope.names.lookup y = some .local := by rfl)
    (hw : swappedStores [.Tuple [.Name x px, .Name y py] kt pt] (.Tuple [a, b] k2 pt2) X.env = pure (some [x, y]) := by rfl)
    (hs : swapsWithSole [.Tuple [.Name x px, .Name y py] kt pt] (.Tuple [a, b] k2 pt2) pos.line X.env = pure false := by rfl)
    (hsa : starEach [a, b] X.env = (false, eval a X.env) :: starEach [b] X.env := by rfl) (hsb : starEach [b] X.env = (false, eval b X.env) :: starEach [] X.env := by rfl) :
    DS X W (.Assign [.Tuple [.Name x px, .Name y py] kt pt] (.Tuple [a, b] k2 pt2) pos) (sPar i j ma mb) := by
  refine ⟨PSimp (ps_par hc hN hi hj hij hx hy (da_cons ha (da_cons hb da_nil hsb) hsa).pa hw hs) ?_⟩
  rintro D σ H ⟨G, ψ, S, ρ, R, E, F⟩
  refine ⟨G, ψ, S, ρ, R, E, F.sB E fun ds S1 G1 ψ1 H1 u R1 F1 vs dvs => ?_⟩
  cases dvs with
  | nil => exact F1.elim
  | cons r1 t =>
    cases t with
    | nil => exact F1.elim
    | cons r2 t =>
      cases t with
      | nil => exact ⟨_, _, rfl, F1 _ _ _ _ Ext.refl R1 (((E.up u).set i r1).set j r2)⟩
      | cons _ _ => exact F1.elim
/-- x op= e -/
def sAug (i : Nat) (f : F2) (me : Nv → M D) : SM := fun ρ => match ρ[i]? with
  | some (some x) => sB (fun ρ => bnd (me ρ) fun y => ask fun S => f S x y) (fun d ρ S => .ok (.nx (ρ.set i (some d))) S) ρ
  | _ => fun _ => .bad
theorem ds_aug (i : Nat) {x : Str} {op : Operator} {f : F2} {pos' : Pos} (ho : OpD X (inplaceOp op) f) (he : DE X W e me) (hN : X.N.Nodup) (hi : X.N[i]? = some x := by rfl) (hx : Loc X.env.scope x := by first | exact Or.inl rfl | exact Or.inr rfl) (hf : X.fn x = true ∨ X.env.scope.names.lookup x = some .local := by first | exact .inl rfl | exact .inr rfl | assumption) :
    DS X W (.AugAssign (.Name x pos') op e pos) (sAug i f me) := by
  refine ⟨PSimp (ps_aug (i := i) hN hi hx he.pe ho hf) ?_⟩
  rintro D σ H ⟨G, ψ, S, ρ, R, E, F⟩
  unfold sAug at F
  cases q : ρ[i]? with
  | none => rw [q] at F; exact F.elim
  | some o =>
    cases o with
    | none => rw [q] at F; exact F.elim
    | some d =>
      rw [q] at F
      obtain ⟨v, hv, r⟩ := E.ev i d q
      have F0 := F.sB E (q := fun d' S' G' ψ' H' => ∀ u, DV X.K G' ψ' d' u → D.nx (σ.set i (some u)) H') fun a S' G' ψ' H' y R' F' u dv => F' _ _ _ _ Ext.refl R' ((E.up y).set i dv)
      refine ⟨v, hv, G, ψ, S, ρ, R, E, F0.bnd fun y S1 G1 ψ1 H1 X1 R1 F1 u du => ?_⟩
      obtain ⟨d2, e2, F2⟩ := F1.ask
      exact ⟨G1, ψ1, S1, d, y, d2, R1, X1.dv r, du, e2, fun G' H' v' X' R' dv => F2.done X' R' v' dv⟩

/-! ### calls of the program's own defs -/
def spD (K : PySem.W.Frag) (mg : Str → Option Value) (np : Nat) (m : List D → M D) : Sp := fun vs H Q E => vs.length = np ∧ ∃ G ψ S ds, Rep K mg G ψ S H ∧ DVs K G ψ ds vs ∧ Fin K mg G ψ H E (m ds S) fun d _ G' ψ' H' => ∀ v, DV K G' ψ' d v → Q v H'
/-- a def as it stands: what a caller needs -/
structure Dn (P : Program) (w : World) (K : PySem.W.Frag) (mg : Str → Option Value) (base : Heap) (k : Nat) (x : Str) (ps : List Str) (m : List D → M D) : Prop where
  ex : ∃ (f : Addr) (fd : FuncData), mg x = some (.ref f) ∧ PySem.W.keepIn K (.ref f) = true ∧ Binds K fd ps [] ∧ FnOk P w K mg base (L2.CX P w) k f fd ps (spD K mg ps.length m)
def eCall (np : Nat) (m : List D → M D) (ma : Nv → M (List D)) : Nv → M D := fun ρ => bnd (ma ρ) fun ds => if ds.length = np then m ds else bad
theorem callFin {K : PySem.W.Frag} {mg : Str → Option Value} {m : List D → M D} {np : Nat} {ma : Nv → M (List D)} {W : WX} {σ : St} {H : Hp} {Q : VK} (h : tE K mg W (eCall np m ma) σ H Q) :
    tAr K mg W ma σ H fun vs H1 => spD K mg np m vs H1 Q (fun c d H' => W c d σ H') := by
  obtain ⟨G, ψ, S, ρ, R, E, F⟩ := h
  refine ⟨G, ψ, S, ρ, R, E, F.bnd fun ds S1 G1 ψ1 H1 X1 R1 F1 vs dvs => ?_⟩
  by_cases hl : ds.length = np
  · rw [if_pos hl] at F1; exact ⟨dvs.length ▸ hl, G1, ψ1, S1, ds, R1, dvs, F1⟩
  · rw [if_neg hl] at F1; exact F1.elim
theorem de_call {k j : Nat} {x : Str} {ps : List Str} {m : List D → M D} {a : Expr} {es : List Expr} {ma : Nv → M (List D)} {p : Pos} (d : Dn X.prog X.w X.K X.mg X.base j x ps m) (tk : Takes X W) (hr : Room k X.A) (hg : Gl X x) (hk : j ≤ k) (ha : DA X W (a :: es) ma) (hdb : (x == ("__debug__" : Str)) = false := by decide)
    (he : starEach (a :: es) X.env = (false, eval a X.env) :: starEach es X.env := by rfl) (hpl : (backTo pos (starEach es X.env)).any (·.1) = false := by rfl) : DE X W (.Call (.Name x p) (a :: es) [] pos) (eCall ps.length m ma) := by
  obtain ⟨f, fd, hm, kp, b, F⟩ := d.ex
  refine ⟨PEimp (pe_callSD F (hr.mono hk) hg hm kp b .nil (E := fun σ c d H' => W c d σ H') (fun σ => passAt tk σ) ha.pa hdb he hpl) fun σ H Q h => ?_⟩
  have := callFin h
  refine (show tCallSD _ _ _ _ σ H Q from ?_)
  unfold tCallSD
  simpa only [List.append_nil] using this

/-! ### a def's promise from its body -/
def fnB (n np : Nat) (b : SM) : List D → M D := fun ds S => if ds.length = np then match b (ds.map some ++ List.replicate (n - ds.length) none) S with
  | .ok (.nx _) S' => .ok .non S' | .ok (.rt d) S' => .ok d S' | .ex c fs _ S' => .ex c fs S' | _ => .bad
  else .bad
theorem evl_start {K : PySem.W.Frag} {G : Hp} {ψ : List Addr} {N : List Str} {ds : List D} {vs : List V} (r : DVs K G ψ ds vs) : EVL K G ψ (ds.map some ++ List.replicate (N.length - ds.length) none) (L2.start N vs) := by
  unfold L2.start
  refine ⟨fun i d e => ?_, by simp [r.length]⟩
  by_cases h : i < ds.length
  · have h' : i < vs.length := r.length ▸ h
    rw [List.getElem?_append_left (by simpa using h)] at e
    rw [List.getElem?_map] at e
    cases q : ds[i]? with
    | none => rw [q] at e; cases e
    | some x =>
      rw [q] at e
      cases e
      obtain ⟨v, hv, dv⟩ := r.get q
      exact ⟨v, by rw [List.getElem?_append_left (by simpa using h'), List.getElem?_map, hv]; rfl, dv⟩
  · rw [List.getElem?_append_right (by simp; omega)] at e
    obtain ⟨_, e2⟩ := List.getElem?_eq_some_iff.mp e
    simp at e2
variable {P : Program} {w : World} {K : PySem.W.Frag} {mg : Str → Option Value} {base : Heap}
/-- what the body of a def at level k may lean on -/
structure Cz (X : Cx) (W : WX) (k : Nat) : Prop where
  tk : Takes X W
  po : PassesOwn (model X.prog X.w) X.A X.env X.xe
  calm : X.calm = true
  room : Room k X.A
theorem fn_ok {x qual : Str} {st : Stmt} {f : Addr} {fd : FuncData} {N ps : List Str} {k : Nat} {b : SM} (F : Fun K x qual st f fd) (Sc : FnScope N ps (defScope st))
    (hb : ∀ (cdv : Value) (A : Around) (outer : List Env) (s : Shared) (H : Hp) (E : XK), Cz (cxOf (L2.CX P w) P w K mg base N qual (defScope st) f cdv A outer s H E) (fun cls d _ H => E cls d H) k →
      DSs (cxOf (L2.CX P w) P w K mg base N qual (defScope st) f cdv A outer s H E) (fun cls d _ H => E cls d H) (defBody st) b) :
    FnOk P w K mg base (L2.CX P w) (k + 1) f fd ps (spD K mg ps.length (fnB N.length ps.length b)) := by
  refine F.okX Sc (fun vs H Q E h => h.1) fun cdv A outer s H vs Q E hr h => ?_
  refine ⟨_, (hb cdv A outer s H E ⟨takes_of rfl rfl rfl rfl, passes_of rfl, rfl, hr⟩).pss, ?_⟩
  obtain ⟨hl, G, ψ, S, ds, R, dvs, F⟩ := h
  refine ⟨G, ψ, S, _, R, evl_start (N := N) dvs, ?_⟩
  unfold fnB at F
  rw [if_pos (dvs.length.trans hl)] at F
  cases e : b (ds.map some ++ List.replicate (N.length - ds.length) none) S with
  | ok f S' =>
    rw [e] at F
    cases f with
    | nx ρ => exact fun G2 ψ2 H2 σ y R2 _ => F _ _ _ y R2 _ .non
    | rt d => exact fun G2 ψ2 H2 v y R2 dv => F _ _ _ y R2 _ dv
    | bk ρ => exact F.elim
    | ct ρ => exact F.elim
  | ex c fs ρ S' => rw [e] at F; exact fun G2 ψ2 H2 σ cls dx y R2 _ q => F _ _ _ cls dx y R2 q
  | bad => rw [e] at F; exact F.elim
end
end Nt

namespace Nt
open PySem PySem.Spec L2
open PyProof.Rows hiding St

/-! ### what is walked -/
structure ItD (K : PySem.W.Frag) (mg : Str → Option Value) (gd : Sto → Prop) (J : It) (G : Hp) (ψ : List Addr) (ds : List D) : Prop where
  few : ds.length ≤ sizeLine
  stop : ∀ G' ψ' S' H', Same G G' → (∀ (n : Nat) (a : Addr), ψ[n]? = some a → ψ'[n]? = some a) → Rep K mg G' ψ' S' H' → gd S' → J.stop ds.length H'
  go : ∀ G' ψ' S' H', Same G G' → (∀ (n : Nat) (a : Addr), ψ[n]? = some a → ψ'[n]? = some a) → Rep K mg G' ψ' S' H' → gd S' → ∀ i d, ds[i]? = some d → J.go i H' ∧
    ∀ x H'', J.yld i H' x H'' → ∃ G'', Ext G' ψ' H' G'' ψ' H'' ∧ Rep K mg G'' ψ' S' H'' ∧ DV K G'' ψ' d x
abbrev Its' := List D × (Sto → Prop)
def tIt (K : PySem.W.Frag) (mg : Str → Option Value) (W : WX) (m : Nv → M Its') : TI := fun σ H R => tG K mg W m σ H fun p S' G' ψ' H' => ∀ J G2 H2, Ext G' ψ' H' G2 ψ' H2 → Rep K mg G2 ψ' S' H2 → ItD K mg p.2 J G2 ψ' p.1 → R J H2
structure DI (X : Cx) (W : WX) (tg e : Expr) (m : Nv → M Its') : Prop where pi : PI X tg e (tIt X.K X.mg W m)
theorem PIimp {X : Cx} {tg e : Expr} {t t' : TI} (h : PI X tg e t) (w : ∀ σ H Q, t' σ H Q → t σ H Q) : PI X tg e t' := ⟨fun pins s σ H R I q => h.run pins s σ H R I (w σ H R q)⟩

/-! ### targets that are names -/
abbrev Asl (α : Type) := List (Nat × α)
def setAll {α : Type} (ρ : List (Option α)) (as : Asl α) : List (Option α) := as.foldl (fun ρ p => ρ.set p.1 (some p.2)) ρ
inductive Asg (K : PySem.W.Frag) (G : Hp) (ψ : List Addr) : Asl D → Asl V → Prop
  | nil : Asg K G ψ [] []
  | cons {i : Nat} {d : D} {v : V} {a : Asl D} {b : Asl V} : DV K G ψ d v → Asg K G ψ a b → Asg K G ψ ((i, d) :: a) ((i, v) :: b)
theorem Asg.app {K : PySem.W.Frag} {G : Hp} {ψ : List Addr} : ∀ {a b : Asl D} {c d : Asl V}, Asg K G ψ a c → Asg K G ψ b d → Asg K G ψ (a ++ b) (c ++ d)
  | _, _, _, _, .nil, s => s
  | _, _, _, _, .cons r t, s => .cons r (Asg.app t s)
theorem Asg.slots {K : PySem.W.Frag} {G : Hp} {ψ : List Addr} : ∀ {a : Asl D} {c : Asl V}, Asg K G ψ a c → a.map (·.1) = c.map (·.1)
  | _, _, .nil => rfl
  | _, _, .cons _ t => by rw [List.map_cons, List.map_cons, Asg.slots t]
theorem EVL.setAll {K : PySem.W.Frag} {G : Hp} {ψ : List Addr} {a : Asl D} {c : Asl V} (r : Asg K G ψ a c) : ∀ {ρ : Nv} {σ : St}, EVL K G ψ ρ σ → EVL K G ψ (Nt.setAll ρ a) (Nt.setAll σ c) := by
  induction a generalizing c with
  | nil => cases r; exact fun h => h
  | cons p a ih =>
    cases r with
    | @cons i d v _ b r t => exact fun {ρ σ} h => ih t (h.set i r)
theorem wipe_set {σ : St} {i : Nat} {v : Option V} : ∀ {vs : List Nat}, i ∈ vs → wipe (σ.set i v) vs = wipe σ vs
  | j :: vs, h => by
    have aux : ∀ (vs : List Nat), (wipe (σ.set i v) vs).set i none = (wipe σ vs).set i none := by
      intro vs
      induction vs with
      | nil => simp [wipe]
      | cons k r ih =>
        unfold wipe
        by_cases e : k = i
        · subst e; simpa using ih
        · rw [List.set_comm _ _ e, ih, List.set_comm _ _ (Ne.symm e)]
    unfold wipe
    by_cases e : j = i
    · subst e; exact aux vs
    · rw [wipe_set (vs := vs) ((List.mem_cons.mp h).resolve_left fun z => e z.symm)]
theorem wipe_setAll {vs : List Nat} : ∀ (as : Asl V) (σ : St), (∀ i ∈ as.map (·.1), i ∈ vs) → wipe (setAll σ as) vs = wipe σ vs
  | [], _, _ => rfl
  | p :: r, σ, h => by
    show wipe (setAll (σ.set p.1 (some p.2)) r) vs = _
    rw [wipe_setAll r _ fun i hi => h i (by rw [List.map_cons]; exact List.mem_cons_of_mem _ hi)]
    exact wipe_set (h p.1 (by rw [List.map_cons]; exact List.mem_cons_self))
theorem wipe_idem {vs : List Nat} (σ : St) : wipe (wipe σ vs) vs = wipe σ vs := by
  have aux : ∀ (us : List Nat) (σ : St), (∀ i ∈ us, i ∈ vs) → wipe (wipe σ us) vs = wipe σ vs := by
    intro us
    induction us with
    | nil => intro σ _; rfl
    | cons k r ih =>
      intro σ h
      show wipe ((wipe σ r).set k none) vs = _
      rw [wipe_set (h k List.mem_cons_self)]
      exact ih σ fun i hi => h i (List.mem_cons_of_mem _ hi)
  exact aux vs σ fun _ h => h
abbrev TLf := D → Option (Asl D)
abbrev TLs := List D → Option (Asl D)
def tLt (K : PySem.W.Frag) (mg : Str → Option Value) (f : TLf) : TG := fun v σ H Q => ∃ G ψ S d as, Rep K mg G ψ S H ∧ DV K G ψ d v ∧ f d = some as ∧ ∀ vas, Asg K G ψ as vas → Q (setAll σ vas) H
def tLts (K : PySem.W.Frag) (mg : Str → Option Value) (f : TLs) : TGs := fun vs σ H Q => ∃ G ψ S ds as, Rep K mg G ψ S H ∧ DVs K G ψ ds vs ∧ f ds = some as ∧ ∀ vas, Asg K G ψ as vas → Q (setAll σ vas) H
structure DL (X : Cx) (t : Expr) (sl : List Nat) (f : TLf) : Prop where
  pg : PG X t (tLt X.K X.mg f)
  sub : ∀ d as, f d = some as → ∀ i ∈ as.map (·.1), i ∈ sl
structure DLs (X : Cx) (t : List Expr) (sl : List Nat) (f : TLs) : Prop where
  pgs : PGs X t (tLts X.K X.mg f)
  sub : ∀ d as, f d = some as → ∀ i ∈ as.map (·.1), i ∈ sl
def lN (i : Nat) : TLf := fun d => some [(i, d)]
def lT (n : Nat) (f : TLs) : TLf := fun d => match d with | .tup ds => if ds.length = n then f ds else none | _ => none
def lNl : TLs := fun ds => match ds with | [] => some [] | _ => none
def lCs (f : TLf) (g : TLs) : TLs := fun ds => match ds with | [] => none | d :: r => (f d).bind fun a => (g r).bind fun b => some (a ++ b)
section
variable {X : Cx} {W : WX} {pos : Pos}
theorem dl_name (i : Nat) {x : Str} (hN : X.N.Nodup) (hi : X.N[i]? = some x := by rfl) (hx : Loc X.env.scope x := by first | exact Or.inl rfl | exact Or.inr rfl) (hf : X.fn x = true ∨ X.env.scope.names.lookup x = some .local := by first | exact .inl rfl | exact .inr rfl | assumption) : DL X (.Name x pos) [i] (lN i) := by
  refine ⟨PGimp (pg_name hN hi hx hf) ?_, ?_⟩
  · rintro v σ H Q ⟨G, ψ, S, d, as, R, dv, e, k⟩
    cases e
    exact k [(i, v)] (.cons dv .nil)
  · intro d as e
    cases e
    simp
theorem dls_nil : DLs X [] [] lNl := by
  refine ⟨PGsimp pgs_nil ?_, ?_⟩
  · rintro vs σ H Q ⟨G, ψ, S, ds, as, R, dvs, e, k⟩
    cases dvs with
    | nil => cases e; exact ⟨rfl, k [] .nil⟩
    | cons _ _ => cases e
  · intro d as e
    cases d with
    | nil => cases e; simp
    | cons _ _ => cases e
theorem dls_cons {t : Expr} {ts : List Expr} {sl sl' : List Nat} {f : TLf} {g : TLs} (h1 : DL X t sl f) (h2 : DLs X ts sl' g)
    (hs : (assignEach (t :: ts) X.env).map (·.2) = assign t X.env :: (assignEach ts X.env).map (·.2) := by rfl) : DLs X (t :: ts) (sl ++ sl') (lCs f g) := by
  refine ⟨PGsimp (pgs_cons h1.pg h2.pgs hs) ?_, ?_⟩
  · rintro vs σ H Q ⟨G, ψ, S, ds, as, R, dvs, e, k⟩
    cases dvs with
    | nil => cases e
    | @cons d v ds vs r1 r2 =>
      dsimp only [lCs] at e
      cases q : f d with
      | none => rw [q] at e; cases e
      | some a =>
        rw [q] at e
        cases q2 : g ds with
        | none => rw [Option.bind_some, q2] at e; cases e
        | some b =>
          rw [Option.bind_some, q2] at e
          cases e
          refine ⟨v, vs, rfl, G, ψ, S, d, a, R, r1, q, fun va ra => ⟨G, ψ, S, ds, b, R, r2, q2, fun vb rb => ?_⟩⟩
          have := k (va ++ vb) (ra.app rb)
          unfold setAll at this ⊢
          rw [List.foldl_append] at this
          exact this
  · intro ds as e
    cases ds with
    | nil => cases e
    | cons d ds =>
      dsimp only [lCs] at e
      cases q : f d with
      | none => rw [q] at e; cases e
      | some a =>
        rw [q] at e
        cases q2 : g ds with
        | none => rw [Option.bind_some, q2] at e; cases e
        | some b =>
          rw [Option.bind_some, q2] at e
          cases e
          intro i hi
          rw [List.map_append] at hi
          rcases List.mem_append.mp hi with hi | hi
          · exact List.mem_append_left _ (h1.sub d a q i hi)
          · exact List.mem_append_right _ (h2.sub ds b q2 i hi)
theorem dl_tup {es : List Expr} {j : Nat} {g : TLs} {n : Nat} {sl : List Nat} (hc : X.calm = true) (h : DLs X es sl g)
    (hn : (assignEach es X.env).length = n := by rfl) (hst : (assignEach es X.env).findIdx? (·.1) = none := by rfl) : DL X (.Tuple es j pos) sl (lT n g) := by
  refine ⟨PGimp (pg_tup hc h.pgs hn hst) ?_, ?_⟩
  · rintro v σ H Q ⟨G, ψ, S, d, as, R, dv, e, k⟩
    cases dv with
    | @tup ds vs a hq z r =>
      dsimp only [lT] at e
      by_cases hl : ds.length = n
      · rw [if_pos hl] at e
        exact ⟨a, vs, rfl, Same.seqT R.sub hq, r.length ▸ hl, G, ψ, S, ds, as, R, r, e, k⟩
      · rw [if_neg hl] at e; cases e
    | _ => cases e
  · intro d as e
    cases d with
    | tup ds =>
      dsimp only [lT] at e
      by_cases hl : ds.length = n
      · rw [if_pos hl] at e; exact h.sub ds as e
      · rw [if_neg hl] at e; cases e
    | _ => cases e
def gL (f : TLf) : TMd := fun d ρ S => (f d).map fun as => (setAll ρ as, S)
theorem DL.dg {t : Expr} {sl : List Nat} {f : TLf} (h : DL X t sl f) : DG X t (gL f) := by
  refine ⟨PGimp h.pg ?_⟩
  rintro v σ H Q ⟨G, ψ, S, ρ, d, ρ', S', R, E, dv, e, k⟩
  unfold gL at e
  cases q : f d with
  | none => rw [q] at e; cases e
  | some as =>
    rw [q] at e
    cases e
    exact ⟨G, ψ, S, d, as, R, dv, q, fun vas r => k _ _ _ _ Ext.refl R (EVL.setAll r E)⟩

/-! ### for -/
open Classical in
noncomputable def loop (gd : Sto → Prop) (tgt : TMd) (body : SM) : List D → SM
  | [], ρ, S => if gd S then .ok (.nx ρ) S else .bad
  | d :: ds, ρ, S => if gd S then (match tgt d ρ S with
      | none => .bad
      | some (ρ1, S1) => match body ρ1 S1 with
        | .ok (.nx ρ2) S2 => loop gd tgt body ds ρ2 S2
        | .ok (.ct ρ2) S2 => loop gd tgt body ds ρ2 S2
        | .ok (.bk ρ2) S2 => .ok (.nx ρ2) S2
        | r => r) else .bad
noncomputable def sFor (mi : Nv → M Its') (tgt : TMd) (body : SM) : SM := sB mi fun p => loop p.2 tgt body p.1
theorem ds_for {tg iter : Expr} {body : List Stmt} {mi : Nv → M Its'} {f : TMd} {mb : SM} (hp : PassesOwn (model X.prog X.w) X.A X.env X.xe) (hc : X.calm = true) (hi : DI X W tg iter mi) (hg : DG X tg f) (hb : DSs X W body mb)
    (hs : ∀ x, foldedSetIterable iter X.env x = pure x := by intro _; rfl) : DS X W (.For tg iter body [] pos) (sFor mi f mb) := by
  refine ⟨PSimp (ps_for hp hc hi.pi hg.pg hb.pss hs) ?_⟩
  rintro D σ H ⟨G, ψ, S, ρ, R, E, F⟩
  refine ⟨G, ψ, S, ρ, R, E, F.sB E fun p S1 G1 ψ1 H1 y R1 F1 J G2 H2 x R2 It => ?_⟩
  obtain ⟨ds, gd⟩ := p
  refine ⟨fun i m σ H => m = ds.length - i ∧ i ≤ ds.length ∧ ∃ G' ψ' S' ρ', Same G2 G' ∧ (∀ (n : Nat) (a : Addr), ψ1[n]? = some a → ψ'[n]? = some a) ∧ Rep X.K X.mg G' ψ' S' H ∧ EVL X.K G' ψ' ρ' σ ∧ FinS X.K X.mg G' ψ' H W D (loop gd f mb (ds.drop i) ρ' S'),
    ⟨ds.length, by simp, Nat.zero_le _, G2, ψ1, S1, ρ, Same.refl _, fun _ _ e => e, R2, (E.up y).up x, by rw [List.drop_zero]; exact F1.step x⟩, ?_⟩
  rintro i m σ' H' ⟨rfl, hi', G', ψ', S', ρ', sg, sp, R', E', F'⟩
  by_cases hlt : i < ds.length
  · have ed : ds.drop i = ds[i] :: ds.drop (i + 1) := List.drop_eq_getElem_cons hlt
    rw [ed] at F'
    unfold loop at F'
    by_cases hg' : gd S'
    · rw [if_pos hg'] at F'
      obtain ⟨go, yl⟩ := It.go G' ψ' S' H' sg sp R' hg' i ds[i] (List.getElem?_eq_getElem hlt)
      refine .inr ⟨go, fun σ3 H3 => ∃ G' ψ' S' ρ', Same G2 G' ∧ (∀ (n : Nat) (a : Addr), ψ1[n]? = some a → ψ'[n]? = some a) ∧ Rep X.K X.mg G' ψ' S' H3 ∧ EVL X.K G' ψ' ρ' σ3 ∧ FinS X.K X.mg G' ψ' H3 W D (loop gd f mb (ds.drop (i + 1)) ρ' S'),
        fun σ3 H3 w => ⟨ds.length - (i + 1), by omega, rfl, hlt, w⟩, fun v H'' yy => ?_⟩
      obtain ⟨G'', x', R'', dv⟩ := yl v H'' yy
      cases q : f ds[i] ρ' S' with
      | none => rw [q] at F'; exact F'.elim
      | some p =>
        obtain ⟨ρ3, S3⟩ := p
        rw [q] at F'
        refine ⟨G'', ψ', S', ρ', ds[i], ρ3, S3, R'', E'.up x', dv, q, fun G4 ψ4 H4 σ4 x4 R4 E4 => ⟨G4, ψ4, S3, ρ3, R4, E4, ?_⟩⟩
        have F4 := (F'.step x').step x4
        have again : ∀ ρ5 S5, FinS X.K X.mg G4 ψ4 H4 W D (loop gd f mb (ds.drop (i + 1)) ρ5 S5) → ∀ G6 ψ6 H6 σ6, Ext G4 ψ4 H4 G6 ψ6 H6 → Rep X.K X.mg G6 ψ6 S5 H6 → EVL X.K G6 ψ6 ρ5 σ6 →
            ∃ G' ψ' S' ρ', Same G2 G' ∧ (∀ (n : Nat) (a : Addr), ψ1[n]? = some a → ψ'[n]? = some a) ∧ Rep X.K X.mg G' ψ' S' H6 ∧ EVL X.K G' ψ' ρ' σ6 ∧ FinS X.K X.mg G' ψ' H6 W D (loop gd f mb (ds.drop (i + 1)) ρ' S') :=
          fun ρ5 S5 F5 G6 ψ6 H6 σ6 x6 R6 E6 => ⟨G6, ψ6, S5, ρ5, ((sg.trans x'.g).trans x4.g).trans x6.g, fun n a e => x6.p n a (x4.p n a (x'.p n a (sp n a e))), R6, E6, F5.step x6⟩
        dsimp only at F4
        cases em : mb ρ3 S3 with
        | ok fl S5 =>
          rw [em] at F4
          cases fl with
          | nx ρ5 => exact again ρ5 S5 F4
          | ct ρ5 => exact again ρ5 S5 F4
          | bk ρ5 => exact F4
          | rt d => exact F4
        | ex c fs ρ5 S5 => rw [em] at F4; exact F4
        | bad => rw [em] at F4; exact F4
    · rw [if_neg hg'] at F'; exact F'.elim
  · have e : i = ds.length := by omega
    subst e
    rw [List.drop_length] at F'
    unfold loop at F'
    by_cases hg' : gd S'
    · rw [if_pos hg'] at F'
      exact .inl ⟨It.stop G' ψ' S' H' sg sp R' hg', F' _ _ _ _ Ext.refl R' E'⟩
    · rw [if_neg hg'] at F'; exact F'.elim

/-! ### while -/
def wStep (c : Nv → M Bool) (b k : SM) : SM := sB c fun t => if t = true then (fun ρ S => match b ρ S with
    | .ok (.nx ρ2) S2 => k ρ2 S2
    | .ok (.ct ρ2) S2 => k ρ2 S2
    | .ok (.bk ρ2) S2 => .ok (.nx ρ2) S2
    | r => r) else sNx
def wN (c : Nv → M Bool) (b : SM) : Nat → SM
  | 0 => fun _ _ => .bad
  | n + 1 => wStep c b (wN c b n)
open Classical in
noncomputable def sWhile (c : Nv → M Bool) (b : SM) : SM := fun ρ S => if h : ∃ n, wN c b n ρ S ≠ .bad then wN c b (Classical.choose h) ρ S else .bad
theorem wN_up {c : Nv → M Bool} {b : SM} : ∀ {n : Nat} {ρ : Nv} {S : Sto}, wN c b n ρ S ≠ .bad → wN c b (n + 1) ρ S = wN c b n ρ S
  | 0, _, _, h => absurd rfl h
  | n + 1, ρ, S, h => by
    have ih := @wN_up c b n
    show wStep c b (wN c b (n + 1)) ρ S = wStep c b (wN c b n) ρ S
    have h' : wStep c b (wN c b n) ρ S ≠ .bad := h
    unfold wStep sB at h' ⊢
    cases e : c ρ S with
    | bad => rfl
    | ex c fs S' => rfl
    | ok t S' =>
      rw [e] at h'
      cases t with
      | false => rfl
      | true =>
        dsimp only at h' ⊢
        rw [if_pos rfl] at h'
        rw [if_pos rfl, if_pos rfl]
        cases e2 : b ρ S' with
        | bad => rfl
        | ex c fs ρ2 S2 => rfl
        | ok f S2 =>
          rw [e2] at h'
          cases f with
          | nx ρ2 => exact ih h'
          | ct ρ2 => exact ih h'
          | bk ρ2 => rfl
          | rt d => rfl
theorem wN_le {c : Nv → M Bool} {b : SM} {n m : Nat} {ρ : Nv} {S : Sto} (h : wN c b n ρ S ≠ .bad) (hm : n ≤ m) : wN c b m ρ S = wN c b n ρ S := by
  induction hm with
  | refl => rfl
  | @step m hm ih => rw [wN_up (by rw [ih]; exact h), ih]
theorem sWhile_of {c : Nv → M Bool} {b : SM} {n : Nat} {ρ : Nv} {S : Sto} (h : wN c b n ρ S ≠ .bad) : sWhile c b ρ S = wN c b n ρ S := by
  unfold sWhile
  have hx : ∃ n, wN c b n ρ S ≠ .bad := ⟨n, h⟩
  rw [dif_pos hx]
  have h2 := Classical.choose_spec hx
  rcases Nat.le_total n (Classical.choose hx) with q | q
  · exact wN_le h q
  · exact (wN_le h2 q).symm
theorem sWhile_bad {c : Nv → M Bool} {b : SM} {ρ : Nv} {S : Sto} (h : ∀ n, wN c b n ρ S = .bad) : sWhile c b ρ S = .bad := by
  unfold sWhile
  rw [dif_neg (by rintro ⟨n, q⟩; exact q (h n))]
/-- one turn -/
theorem sWhile_eq {c : Nv → M Bool} {b : SM} : sWhile c b = wStep c b (sWhile c b) := by
  funext ρ S
  by_cases hx : ∃ n, wN c b n ρ S ≠ .bad
  · obtain ⟨n, h⟩ := hx
    rw [sWhile_of h]
    cases n with
    | zero => exact absurd rfl h
    | succ n =>
      have h' : wStep c b (wN c b n) ρ S ≠ .bad := h
      show wStep c b (wN c b n) ρ S = _
      unfold wStep sB at h' ⊢
      cases e : c ρ S with
      | bad => rfl
      | ex c fs S' => rfl
      | ok t S' =>
        rw [e] at h'
        cases t with
        | false => rfl
        | true =>
          dsimp only at h' ⊢
          rw [if_pos rfl] at h'
          rw [if_pos rfl, if_pos rfl]
          cases e2 : b ρ S' with
          | bad => rfl
          | ex c fs ρ2 S2 => rfl
          | ok f S2 =>
            rw [e2] at h'
            cases f with
            | nx ρ2 => exact (sWhile_of h').symm
            | ct ρ2 => exact (sWhile_of h').symm
            | bk ρ2 => rfl
            | rt d => rfl
  · have hb : ∀ n, wN c b n ρ S = .bad := fun n => by
      by_cases q : wN c b n ρ S = .bad
      · exact q
      · exact (hx ⟨n, q⟩).elim
    rw [sWhile_bad hb]
    unfold wStep sB
    cases e : c ρ S with
    | bad => rfl
    | ex cc fs S' => have := hb 1; unfold wN wStep sB at this; rw [e] at this; cases this
    | ok t S' =>
      cases t with
      | false => have := hb 1; unfold wN wStep sB at this; rw [e] at this; cases this
      | true =>
        dsimp only
        rw [if_pos rfl]
        cases e2 : b ρ S' with
        | bad => rfl
        | ex cc fs ρ2 S2 => have := hb 1; unfold wN wStep sB at this; rw [e] at this; dsimp only at this; rw [if_pos rfl, e2] at this; cases this
        | ok f S2 =>
          have key : ∀ n, (match b ρ S' with
    | .ok (.nx ρ2) S2 => wN c b n ρ2 S2
    | .ok (.ct ρ2) S2 => wN c b n ρ2 S2
    | .ok (.bk ρ2) S2 => .ok (.nx ρ2) S2
    | r => r) = Sr.bad := fun n => by
            have := hb (n + 1)
            unfold wN wStep sB at this
            rw [e] at this
            dsimp only at this
            rw [if_pos rfl] at this
            exact this
          rw [e2] at key
          cases f with
          | nx ρ2 => exact (sWhile_bad key).symm
          | ct ρ2 => exact (sWhile_bad key).symm
          | bk ρ2 => cases key 0
          | rt d => cases key 0
theorem ds_while {c : Expr} {body : List Stmt} {tc : Nv → M Bool} {mb : SM} (hp : PassesOwn (model X.prog X.w) X.A X.env X.xe) (hc : DT X W c tc) (hb : DSs X W body mb) : DS X W (.While c body [] pos) (sWhile tc mb) := by
  refine ⟨PSimp (ps_while hp hc.pt hb.pss) ?_⟩
  rintro D σ H ⟨G, ψ, S, ρ, R, E, F⟩
  have hx : ∃ n, wN tc mb n ρ S ≠ .bad := by
    refine Classical.byContradiction fun q => ?_
    unfold sWhile at F
    rw [dif_neg q] at F
    exact F
  obtain ⟨n, hn⟩ := hx
  rw [sWhile_of hn] at F
  refine ⟨fun m σ H => ∃ G ψ S ρ, Rep X.K X.mg G ψ S H ∧ EVL X.K G ψ ρ σ ∧ FinS X.K X.mg G ψ H W D (wN tc mb m ρ S), ⟨n, G, ψ, S, ρ, R, E, F⟩, ?_⟩
  rintro m σ' H' ⟨G', ψ', S', ρ', R', E', F'⟩
  cases m with
  | zero => exact F'.elim
  | succ m =>
    refine ⟨G', ψ', S', ρ', R', E', FinS.sB F' E' fun t S1 G1 ψ1 H1 y R1 F1 => ?_⟩
    cases t with
    | false => exact F1 _ _ _ _ Ext.refl R1 (E'.up y)
    | true =>
      rw [if_pos rfl] at F1
      refine ⟨fun σ3 H3 => ∃ G ψ S ρ, Rep X.K X.mg G ψ S H3 ∧ EVL X.K G ψ ρ σ3 ∧ FinS X.K X.mg G ψ H3 W D (wN tc mb m ρ S), fun σ3 H3 w => ⟨m, Nat.lt_succ_self _, w⟩, G1, ψ1, S1, ρ', R1, E'.up y, ?_⟩
      cases em : mb ρ' S1 with
      | ok fl S5 =>
        rw [em] at F1
        cases fl with
        | nx ρ5 => exact fun G6 ψ6 H6 σ6 x6 R6 E6 => ⟨G6, ψ6, S5, ρ5, R6, E6, F1.step x6⟩
        | ct ρ5 => exact fun G6 ψ6 H6 σ6 x6 R6 E6 => ⟨G6, ψ6, S5, ρ5, R6, E6, F1.step x6⟩
        | bk ρ5 => exact F1
        | rt d => exact F1
      | ex c fs ρ5 S5 => rw [em] at F1; exact F1
      | bad => rw [em] at F1; exact F1
end
end Nt

namespace Nt
open PySem PySem.Spec L2
open PyProof.Rows hiding St

/-! ### comprehensions -/
open Classical in
noncomputable def lcM (gd : Sto → Prop) (f : TLf) (c : Nv → M Bool) (e : Nv → M D) : List D → Nv → M (List D)
  | [], _ => fun S => if gd S then .ok [] S else .bad
  | d :: ds, ρ => fun S => if gd S then (match f d with
      | none => .bad
      | some as => bnd (c (setAll ρ as)) (fun b => if b = true then bnd (e (setAll ρ as)) (fun x => bnd (lcM gd f c e ds ρ) fun r => ret (x :: r)) else lcM gd f c e ds ρ) S) else .bad
/-- raises nothing -/
def noX {α : Type} (m : M α) : M α := fun S => match m S with | .ex _ _ _ => .bad | r => r
noncomputable def eLc (mi : Nv → M Its') (f : TLf) (c : Nv → M Bool) (e : Nv → M D) (vs : List Nat) : Nv → M (List D) := fun ρ => bnd (mi ρ) fun p => noX (lcM p.2 f c e p.1 (wipeD ρ vs))
abbrev W0 : WX := fun _ _ _ _ => False
structure DTs (X : Cx) (W : WX) (ifs : List Expr) (m : Nv → M Bool) : Prop where pts : PTs X ifs (tT X.K X.mg W m)
section
variable {K : PySem.W.Frag} {mg : Str → Option Value} {G G' : Hp} {ψ ψ' : List Addr} {H H' : Hp} {p : Addr}
def hid (H : Hp) (p : Addr) : Hp := fun a => if a = p then none else H a
theorem hid_some {a : Addr} {o : HO} (h : hid H p a = some o) : a ≠ p ∧ H a = some o := by
  unfold hid at h
  by_cases e : a = p
  · rw [if_pos e] at h; cases h
  · rw [if_neg e] at h; exact ⟨e, h⟩
theorem hid_ne {a : Addr} (h : a ≠ p) : hid H p a = H a := if_neg h
theorem hid_upd {o : HO} : hid (upd H p o) p = hid H p := by
  funext a
  unfold hid
  by_cases e : a = p
  · rw [if_pos e, if_pos e]
  · rw [if_neg e, if_neg e, upd_ne e]
theorem hid_free (h : H p = none) : hid H p = H := by
  funext a
  unfold hid
  by_cases e : a = p
  · rw [if_pos e, e, h]
  · rw [if_neg e]
theorem Ext.hid (x : Ext G ψ H G' ψ' H') : Ext G ψ (hid H p) G' ψ' (hid H' p) :=
  ⟨x.g, x.p, fun a o e g n => let ⟨ne, h⟩ := hid_some e; let ⟨h1, g1, n1⟩ := x.fr a o h g n; ⟨(hid_ne ne).trans h1, g1, n1⟩⟩
theorem Ext.unhid : Ext G ψ (Nt.hid H p) G ψ H := ⟨Same.refl _, fun _ _ e => e, fun a o e g n => ⟨(hid_some e).2, g, n⟩⟩
theorem Fin.noX {α : Type} {W W' : XD} {m : M α} {S : Sto} {q : α → Sto → Hp → List Addr → Hp → Prop} (h : Fin K mg G ψ H W (Nt.noX m S) q) : Fin K mg G ψ H W' (m S) q := by
  unfold Nt.noX at h
  cases e : m S with
  | ok a S' => rw [e] at h; exact h
  | ex c fs S' => rw [e] at h; exact h.elim
  | bad => rw [e] at h; exact h
end
section
variable {X : Cx} {W : WX} {pos : Pos}
theorem dts_nil : DTs X W [] tTt := ⟨⟨fun pins s σ H Q I h => (pts_nil (X := X)).run pins s σ H Q I (by
  obtain ⟨G, ψ, S, ρ, R, E, F⟩ := h
  exact F.done Ext.refl R)⟩⟩
theorem dts_one {c : Expr} {t : Nv → M Bool} (h : DT X W c t) : DTs X W [c] t := ⟨pts_one h.pt⟩
theorem lc_read {own : List (Str × Nat)} {mi : Nv → M Its'} {f : TLf} {sl : List Nat} {tc : Nv → M Bool} {me : Nv → M D} (hsl : ∀ i ∈ sl, i ∈ own.map (·.2)) (hsub : ∀ d as, f d = some as → ∀ i ∈ as.map (·.1), i ∈ sl) {σ : St} {H : Hp} {Q : VK} :
    tN X.K X.mg W (eLc mi f tc me (own.map (·.2))) σ H Q → tLc (tIt X.K X.mg W mi) (tLt X.K X.mg f) (tT X.K X.mg W0 tc) (tE X.K X.mg W0 me) (own.map (·.2)) σ H Q := by
  rintro ⟨G, ψ, S, ρ, R, E, F⟩
  refine ⟨G, ψ, S, ρ, R, E, F.bnd0 Ext.refl fun p S1 G1 ψ1 H1 X1 R1 F1 J G2 H2 x R2 It D hD => ?_⟩
  obtain ⟨ds, gd⟩ := p
  have x2 := X1.trans x
  have hD0 : H D = none := x2.back R R2 hD
  have E2 : EVL X.K G2 ψ1 (wipeD ρ (own.map (·.2))) (wipe σ (own.map (·.2))) := (E.up x2).wipe _
  refine ⟨fun i m H' => m = ds.length - i ∧ i ≤ ds.length ∧ ∃ G' ψ' S' acc accD, Same G2 G' ∧ (∀ (n : Nat) (a : Addr), ψ1[n]? = some a → ψ'[n]? = some a) ∧ Rep X.K X.mg G' ψ' S' H' ∧ H' D = some (.lst acc) ∧ G' D = none ∧ D ∉ ψ' ∧ acc.length ≤ i ∧ DVs X.K G' ψ' accD acc ∧
      Fin X.K X.mg G' ψ' (hid H' D) (fun _ _ _ => False) (lcM gd f tc me (ds.drop i) (wipeD ρ (own.map (·.2))) S') (fun r S'' G'' ψ'' H'' => ∀ vs, DVs X.K G'' ψ'' (accD ++ r) vs → vs.length ≤ sizeLine → H'' D = some (.lst vs) → G'' D = none → D ∉ ψ'' → Q (.ref D) H''),
    ⟨ds.length, by simp, Nat.zero_le _, G2, ψ1, S1, [], [], Same.refl _, fun _ _ e => e, R2.priv (R2.gfree hD) (R2.notMem hD), upd_same, R2.gfree hD, R2.notMem hD, Nat.le_refl _, .nil, ?_⟩, ?_⟩
  · rw [List.drop_zero, hid_upd, hid_free hD]
    exact (F1.noX.step x2).mono fun r S'' G'' ψ'' H'' _ _ q vs dvs hl hh hg' hm => q D vs dvs hl hD0 hh hg' hm
  · rintro i m H' ⟨rfl, hi', G', ψ', S', acc, accD, sg, sp, R', hH, hG, hψ, hlen, dacc, F'⟩
    by_cases hlt : i < ds.length
    · have ed : ds.drop i = ds[i] :: ds.drop (i + 1) := List.drop_eq_getElem_cons hlt
      rw [ed] at F'
      unfold lcM at F'
      by_cases hgd : gd S'
      · rw [if_pos hgd] at F'
        obtain ⟨go, yl⟩ := It.go G' ψ' S' H' sg sp R' hgd i ds[i] (List.getElem?_eq_getElem hlt)
        refine .inr ⟨go, fun H3 => ∃ G' ψ' S' acc accD, Same G2 G' ∧ (∀ (n : Nat) (a : Addr), ψ1[n]? = some a → ψ'[n]? = some a) ∧ Rep X.K X.mg G' ψ' S' H3 ∧ H3 D = some (.lst acc) ∧ G' D = none ∧ D ∉ ψ' ∧ acc.length ≤ i + 1 ∧ DVs X.K G' ψ' accD acc ∧
            Fin X.K X.mg G' ψ' (hid H3 D) (fun _ _ _ => False) (lcM gd f tc me (ds.drop (i + 1)) (wipeD ρ (own.map (·.2))) S') (fun r S'' G'' ψ'' H'' => ∀ vs, DVs X.K G'' ψ'' (accD ++ r) vs → vs.length ≤ sizeLine → H'' D = some (.lst vs) → G'' D = none → D ∉ ψ'' → Q (.ref D) H''),
          fun H3 w => ⟨ds.length - (i + 1), by omega, rfl, hlt, w⟩, fun v H'' yy => ?_⟩
        obtain ⟨G'', x', R'', dv⟩ := yl v H'' yy
        obtain ⟨hH2, hG2, hψ2⟩ := x'.fr D _ hH hG hψ
        cases q : f ds[i] with
        | none => rw [q] at F'; exact F'.elim
        | some as =>
          rw [q] at F'
          have F2 := F'.step x'.hid
          refine ⟨G'', ψ', S', ds[i], as, R'', dv, q, fun vas ra => ⟨?_, ?_⟩⟩
          · rw [wipe_setAll vas _ fun j hj => hsl j (hsub _ _ q j (by rw [ra.slots]; exact hj)), wipe_idem]
          · have Eρ : EVL X.K G'' ψ' (setAll (wipeD ρ (own.map (·.2))) as) (setAll (wipe σ (own.map (·.2))) vas) :=
              EVL.setAll ra ⟨fun j d e => let ⟨u, hu, du⟩ := E2.ev j d e; ⟨u, hu, (du.up sg sp).up x'.g x'.p⟩, E2.len⟩
            refine ⟨G'', ψ', S', _, R'', Eρ, F2.bnd0 Ext.unhid fun b S3 G3 ψ3 H3 X3 R3 F3 => ?_⟩
            obtain ⟨hH3, hG3, hψ3⟩ := X3.fr D _ hH2 hG2 hψ2
            have sg3 : Same G2 G3 := (sg.trans x'.g).trans X3.g
            have sp3 : ∀ (n : Nat) (a : Addr), ψ1[n]? = some a → ψ3[n]? = some a := fun n a e => X3.p n a (x'.p n a (sp n a e))
            have F4 := F3.step X3.hid
            cases b with
            | false =>
              rw [if_neg Bool.false_ne_true] at F4
              rw [if_neg Bool.false_ne_true]
              exact ⟨G3, ψ3, S3, acc, accD, sg3, sp3, R3, hH3, hG3, hψ3, Nat.le_succ_of_le hlen, X3.dvs (x'.dvs dacc), F4⟩
            | true =>
              rw [if_pos rfl] at F4
              rw [if_pos rfl]
              refine ⟨G3, ψ3, S3, _, R3, Eρ.up X3, F4.bnd0 Ext.unhid fun y S4 G4 ψ4 H4 X4 R4 F5 v dy => ?_⟩
              obtain ⟨hH4, hG4, hψ4⟩ := X4.fr D _ hH3 hG3 hψ3
              have hfew : ds.length ≤ sizeLine := It.few
              refine ⟨acc, hH4, by omega, G4, ψ4, S4, acc ++ [v], accD ++ [y], sg3.trans X4.g, fun n a e => X4.p n a (sp3 n a e), R4.priv hG4 hψ4, upd_same, hG4, hψ4, by rw [List.length_append, List.length_singleton]; omega, DVs.app (X4.dvs (X3.dvs (x'.dvs dacc))) (.cons dy .nil), ?_⟩
              rw [hid_upd]
              refine (F5.step X4.hid).bnd0 Ext.refl fun r S6 G6 ψ6 H6 X6 R6 F6 vs dvs hl hh hg' hm => ?_
              rw [List.append_assoc] at dvs
              exact F6.done X6 R6 vs dvs hl hh hg' hm
      · rw [if_neg hgd] at F'; exact F'.elim
    · have e : i = ds.length := by omega
      subst e
      rw [List.drop_length] at F'
      unfold lcM at F'
      by_cases hgd : gd S'
      · rw [if_pos hgd] at F'
        refine .inl ⟨It.stop G' ψ' S' H' sg sp R' hgd, ?_⟩
        refine F'.done Ext.unhid R' acc (by rw [List.append_nil]; exact dacc) ?_ hH hG hψ
        have hfew : ds.length ≤ sizeLine := It.few
        omega
      · rw [if_neg hgd] at F'; exact F'.elim
theorem dn_lc {elt tg iter : Expr} {ifs : List Expr} {scope : Scope} {own : List (Str × Nat)} {mi : Nv → M Its'} {f : TLf} {sl : List Nat} {tc : Nv → M Bool} {me : Nv → M D} (hc : X.calm = true) (hN : X.N.Nodup) (hi : DI X W tg iter mi) (ok : BlkOk X.N X.env.scope scope own)
    (hsl : ∀ i ∈ sl, i ∈ own.map (·.2))
    (hg : ∀ (s : Shared) (H : Hp) (C : Addr) (cl : List (Str × Addr)) (fp : List Addr), DL (X.blk s H scope (compEnvC scope cl C X.env) fp) tg sl f) (ht : ∀ (s : Shared) (H : Hp) (C : Addr) (cl : List (Str × Addr)) (fp : List Addr), DTs (X.blk s H scope (compEnvC scope cl C X.env) fp) W0 ifs tc)
    (he : ∀ (s : Shared) (H : Hp) (C : Addr) (cl : List (Str × Addr)) (fp : List Addr), DE (X.blk s H scope (compEnvC scope cl C X.env) fp) W0 elt me) (hs : ∀ x, foldedSetIterable iter X.env x = pure x := by intro _; rfl) :
    DN X W (.ListComp elt [⟨tg, iter, ifs, 0⟩] scope pos) (eLc mi f tc me (own.map (·.2))) :=
  ⟨PEimp (pe_lc (g := tLt X.K X.mg f) (tt := tT X.K X.mg W0 tc) (te := tE X.K X.mg W0 me) hc hN hi.pi ok (fun s H C cl fp => (hg s H C cl fp).pg) (fun s H C cl fp => (ht s H C cl fp).pts) (fun s H C cl fp => (he s H C cl fp).pe) hs) fun _ _ _ q => lc_read hsl (hg X.s_0 X.H_0 0 [] []).sub q⟩
/-- y = [..] on one line -/
theorem ds_setLc (j : Nat) {y : Str} {py spos : Pos} {mk : (Nv → M (List D)) → Nv → M D} {elt tg iter : Expr} {ifs : List Expr} {scope : Scope} {own : List (Str × Nat)} {mi : Nv → M Its'} {f : TLf} {sl : List Nat} {tc : Nv → M Bool} {me : Nv → M D} (hc : X.calm = true) (hN : X.N.Nodup) (hi : DI X W tg iter mi) (ok : BlkOk X.N X.env.scope scope own)
    (hsl : ∀ i ∈ sl, i ∈ own.map (·.2))
    (hg : ∀ (s : Shared) (H : Hp) (C : Addr) (cl : List (Str × Addr)) (fp : List Addr), DL (X.blk s H scope (compEnvC scope cl C X.env) fp) tg sl f) (ht : ∀ (s : Shared) (H : Hp) (C : Addr) (cl : List (Str × Addr)) (fp : List Addr), DTs (X.blk s H scope (compEnvC scope cl C X.env) fp) W0 ifs tc)
    (he : ∀ (s : Shared) (H : Hp) (C : Addr) (cl : List (Str × Addr)) (fp : List Addr), DE (X.blk s H scope (compEnvC scope cl C X.env) fp) W0 elt me)
    (hmk : ∀ {σ : St} {H : Hp} {Q : VK}, tE X.K X.mg W (mk (eLc mi f tc me (own.map (·.2)))) σ H Q → tN X.K X.mg W (eLc mi f tc me (own.map (·.2))) σ H Q)
    (hy : X.N[j]? = some y := by rfl) (hyl : X.env.scope.names.lookup y = some .local := by rfl)
    (hsw : swapsWith (.ListComp elt [⟨tg, iter, ifs, 0⟩] scope pos) (some (.Name y py)) spos.line X.env = pure true := by exact sw_true rfl rfl rfl (by decide +kernel)) (hs : ∀ x, foldedSetIterable iter X.env x = pure x := by intro _; rfl) :
    DS X W (.Assign [.Name y py] (.ListComp elt [⟨tg, iter, ifs, 0⟩] scope pos) spos) (sSet j (mk (eLc mi f tc me (own.map (·.2))))) :=
  ⟨PSimp (ps_setLc (i := j) (g := tLt X.K X.mg f) (tt := tT X.K X.mg W0 tc) (te := tE X.K X.mg W0 me) hc hN hy hyl hsw hi.pi ok (fun s H C cl fp => (hg s H C cl fp).pg) (fun s H C cl fp => (ht s H C cl fp).pts) (fun s H C cl fp => (he s H C cl fp).pe) hs)
    fun _ _ _ q => lc_read hsl (hg X.s_0 X.H_0 0 [] []).sub (hmk (set_read q))⟩
end
end Nt

namespace Nt
open PySem PySem.Spec L2
open PyProof.Rows hiding St

/-! ### lists and tuples walked alike -/
def SqB : Bool → PySem.W.Frag → Hp → Addr → List V → Prop
  | true => SqL
  | false => SqT
def ItB : Bool → Heap → Addr → Addr → Nat → Prop
  | true => fun h it a i => h.IsListIter it a i
  | false => fun h it a i => h.IsTupleIter it a i
def ObB : Bool → Heap → Addr → Array Value → Prop
  | true => fun h a its => h.IsList a its
  | false => fun h a its => h.IsTuple a its
section
variable {X : Cx} {pins : List (Addr × Obj)} {σ : St} {H : Hp} {s : Shared} {a : Addr} {xs ys : List V} {b : Bool}
theorem Inv.seqB (I : Inv X pins σ H s) (h : SqB b X.K H a xs) : ∃ its : List Value, Vals xs its ∧ ObB b s.heap a its.toArray ∧ xs.length ≤ sizeLine := by
  cases b with
  | true => obtain ⟨its, r, p, z⟩ := I.list h; exact ⟨its, r, p.isList, z⟩
  | false => obtain ⟨its, r, p, z⟩ := I.tuple h; exact ⟨its, r, p, z⟩
theorem Inv.seqB_inj (I : Inv X pins σ H s) (h : SqB b X.K H a xs) (h' : SqB b X.K H a ys) : xs = ys := by
  cases b with
  | true => exact I.list_inj h h'
  | false => exact I.tuple_inj h h'
theorem ItB.there {h : Heap} {it : Addr} {i : Nat} (x : ItB b h it a i) : ∃ o, h.get? it = some o ∧ ∀ v, o.data ≠ .cell v := by
  cases b with
  | true => obtain ⟨o, e, c, d⟩ := x; exact ⟨o, e, fun v z => by rw [d] at z; cases z⟩
  | false => obtain ⟨o, e, c, d⟩ := x; exact ⟨o, e, fun v z => by rw [d] at z; cases z⟩
theorem ItB.at {h h' : Heap} {it : Addr} {i : Nat} (x : ItB b h it a i) (k : ∀ o, h.get? it = some o → h'.get? it = some o) : ItB b h' it a i := by
  cases b with
  | true => exact Heap.IsListIter.at x k
  | false => exact Heap.IsTupleIter.at x k
theorem ObB.ne {h : Heap} {it : Addr} {i : Nat} {its : Array Value} (x : ItB b h it a i) (y : ObB b h a its) : a ≠ it := by
  intro e
  subst e
  cases b with
  | true =>
    obtain ⟨o, e1, c, d⟩ := x
    obtain ⟨o2, e2, c2, _⟩ := y
    rw [e1] at e2; cases e2
    rw [c] at c2; exact absurd c2 (by simp)
  | false =>
    obtain ⟨o, e1, c, d⟩ := x
    obtain ⟨o2, e2, c2, _⟩ := y
    rw [e1] at e2; cases e2
    rw [c] at c2; exact absurd c2 (by simp)
theorem drawsB {prog : Program} {w : World} {A : Around} (hh : A.handled = none) (b : Bool) (it a : Addr) (hne : a ≠ it) (its : Array Value) :
    Draws prog w A it [it, a] its.size (fun i v => its[i]? = some v) (fun i h => ItB b h it a i ∧ ObB b h a its) := by
  cases b with
  | true => exact Draws.list hh it a hne its
  | false => exact Draws.tuple hh it a hne its
theorem beginsB (b : Bool) (a : Addr) (its : Array Value) : ∃ o, Begins (.ref a) o (fun h => ObB b h a its) ∧ ∀ h : Heap, ∀ it, h.get? it = some o → ItB b h it a 0 := by
  cases b with
  | true => exact ⟨_, begins_list a its, fun h it e => ⟨_, e, rfl, rfl⟩⟩
  | false => exact ⟨_, begins_tuple a its, fun h it e => ⟨_, e, rfl, rfl⟩⟩
end
/-- enumerate, the count from k -/
def IteB (b : Bool) (K : PySem.W.Frag) (a : Addr) : It :=
  ⟨fun i H => ∃ (xs : List V) (x : V), SqB b K H a xs ∧ xs[i]? = some x, fun i H v H' => ∃ T x, v = .ref T ∧ H T = none ∧ H' = upd H T (.tup [.int (i : Nat), x]) ∧ ∀ xs, SqB b K H a xs → xs[i]? = some x, fun i H => ∃ xs : List V, SqB b K H a xs ∧ xs.length = i⟩
theorem turn_enumB {P : Program} {w : World} {K : PySem.W.Frag} {elts : List Expr} {kk : Nat} {tpos : Pos} (b : Bool) (a e it : Addr) :
    Turn P w K (.Tuple elts kk tpos) (IteB b K a) [e, it] e (fun i h => (∃ old, IsEnum h e it ((i : Nat) : Int) old) ∧ ItB b h it a i ∧ e ≠ it ∧ e ≠ a) where
  mem := by simp
  obj := fun i h st c hc => by
    obtain ⟨⟨old, he⟩, hi, _⟩ := st
    have e' : c = e ∨ c = it := by simpa using hc
    rcases e' with z | z
    · rw [z]; exact ⟨_, he, fun v q => nomatch q⟩
    · rw [z]; exact hi.there
  keep := fun i h h' st k => let ⟨⟨old, he⟩, hi, hne⟩ := st; ⟨⟨old, k e (by simp) _ he⟩, hi.at fun o q => k it (by simp) o q, hne⟩
  item := by
    intro X hP hw hK hc i pins s σ H E I hf st hg
    subst hP hw hK
    obtain ⟨⟨old, he⟩, hit, hne, hea⟩ := st
    obtain ⟨xs, x, hq, hx⟩ := hg
    obtain ⟨its, rv, p, hz⟩ := Nt.Inv.seqB I hq
    obtain ⟨u, hu, ru⟩ := rv.get hx
    have hel : e < s.heap.objs.size := Heap.lt_size he
    have hil : it < s.heap.objs.size := by obtain ⟨_, q, _⟩ := hit.there; exact Heap.lt_size q
    have hlt : i < its.toArray.size := by
      have := (List.getElem?_eq_some_iff.mp hu).1
      simpa using this
    refine wpAny_pyNext_enum_itemD (drawsB (A := X.A.in1) (I.ok.hd hc) b it a (ObB.ne hit p) its.toArray) he ⟨hit, p⟩ hlt hne (by simp [hne, hea]) fun u' h' tk hP ho hst hT hsz hk => ?_
    have eu : u' = u := by
      have : its[i]? = some u' := by simpa using hP
      rw [hu] at this
      exact (Option.some.inj this).symm
    subst eu
    refine ⟨_, rfl, wpAny_letOwnedTupleGo_enum (s := { s with heap := h', toks := tk + 1 }) ho fun h'' he' sb => ?_⟩
    have hT2 : h''.get? s.heap.objs.size = some { cls := .type "tuple", data := .seq #[.int i tk, u'] } := (sb.2 _ (Nat.ne_of_gt hel)).trans hT
    have new : ObjOk X.prog X.w (upd H s.heap.objs.size (.tup [.int (i : Nat), x])) h'' s.heap.objs.size (.tup [.int (i : Nat), x]) :=
      ⟨by show 2 ≤ sizeLine; decide, [.int i tk, u'], .cons ⟨_, rfl⟩ (.cons ru .nil), ⟨_, hT2, rfl, _, rfl⟩⟩
    have I1 : Inv X pins σ (upd H s.heap.objs.size (.tup [.int (i : Nat), x])) { s with heap := h'', toks := tk + 1 } :=
      I.turnedNew (ch := [e, it]) (fun b ob hb q => (sb.2 b (fun z => hb (by simp [z]))).trans (hk b ob (fun z => hb (by simp [z])) (fun z => hb (by simp [z])) q)) hf (Nat.le_refl _) new
    refine ⟨.ref s.heap.objs.size, _, I1, rfl, ⟨_, x, rfl, I.hok.fresh (Nat.le_refl _), rfl, fun ys hy => by rw [Nt.Inv.seqB_inj I hy hq]; exact hx⟩, ⟨⟨u', ?_⟩, hst.1.at fun o q => (sb.2 it (Ne.symm hne)).trans q, hne, hea⟩, fun b hb => ?_⟩
    · have e1 : ((i + 1 : Nat) : Int) = (i : Int) + 1 := by omega
      rw [e1]; exact he'
    · have hb' : b < s.heap.objs.size := by
        have e' : b = e ∨ b = it := by simpa using hb
        rcases e' with z | z
        · rw [z]; exact hel
        · rw [z]; exact hil
      rw [upd_ne (Nat.ne_of_lt hb')]
      exact (hf b hb).1
  done := by
    intro X hP hw hK hc i pins s σ H E I hf st hg
    subst hP hw hK
    obtain ⟨⟨old, he⟩, hit, hne, hea⟩ := st
    obtain ⟨xs, hq, hx⟩ := hg
    obtain ⟨its, rv, p, hz⟩ := Nt.Inv.seqB I hq
    obtain ⟨f0, f1, f2, f3, f4, f5⟩ := hf it (by simp)
    have hl := rv.length
    have hn : its.toArray.size = i := by simp; omega
    exact wpAny_pyNext_enum_endD (drawsB (A := X.A.in1) (I.ok.hd hc) b it a (ObB.ne hit p) its.toArray) he (by rw [hn]; exact ⟨hit, p⟩) fun h' eb => ⟨rfl, I.turned (t' := s.toks) (fun b o hb q => eb b o hb q) f0 f1 f3 f4 f5⟩
  self := fun A i s Q E st h => let ⟨⟨_, he⟩, _⟩ := st; wpAny_pyIter_enum he h
set_option maxHeartbeats 1000000 in
theorem meets_enum1 {v : Value} {o : Obj} {Hy : Heap → Prop} (B : Begins v o Hy) :
    Meets (Builtin.«enumerate.__new__» ⟨[.type "enumerate", v], []⟩) (fun _ R s => Hy s.heap ∧
      R (.ok (.ret (.ref (s.heap.push o).objs.size))) { s with heap := (s.heap.push o).push { cls := .type "enumerate", data := .fields #[.none, .bool false, .ref s.heap.objs.size, rawInt 0, .none, .none] } }) :=
  .of_wp fun prog w A R s h => by
    obtain ⟨hp, g, d, tk, os⟩ := s
    obtain ⟨h1, h⟩ := h
    have hsub := sub_enumerate
    have go : ∀ {A' : Around} {E : Value → Shared → Prop} {Q : Value → Shared → Prop}, Q (.ref hp.objs.size) ⟨hp.push o, g, d, tk, os⟩ → wpAny (model prog w) A' (pyIter v) Q E ⟨hp, g, d, tk, os⟩ :=
      fun q => B.iter prog w _ _ ⟨hp, g, d, tk, os⟩ _ h1 q
    wp_walk using go
    refine wpAny_stack_any fun st => wpAny_pure ?_
    split
    · rename_i c _ _ _ _ _
      cases (c == Value.type "enumerate")
      · wp_walk using go
        exact ⟨_, rfl, h⟩
      · wp_walk using go
        exact ⟨_, rfl, h⟩
    · wp_walk using go
      exact ⟨_, rfl, h⟩
theorem enum_begins1 {prog : Program} {w : World} {A : Around} {E : Value → Shared → Prop} {s : Shared} {v : Value} {o : Obj} {Hy : Heap → Prop} {Q : Value → Shared → Prop} (B : Begins v o Hy) (h1 : Hy s.heap)
    (h : ∀ h', IsEnum h' (s.heap.objs.size + 1) s.heap.objs.size 0 .none → h'.get? s.heap.objs.size = some o → h'.objs.size = s.heap.objs.size + 2 →
      (∀ b o, s.heap.get? b = some o → h'.get? b = some o) → Q (.ref (s.heap.objs.size + 1)) { s with heap := h' }) :
    wpAny (model prog w) A (call (.type "enumerate") [v]) Q E s := by
  refine callType_new F.called_enumerate (by decide) (F.typeCall_enumerate_1 _) (F.newCall_enumerate_1 _) (fun obj => F.args_object_init_2 obj _) F.entry_enumerate_new (meets_enum1 B) ⟨h1, ?_⟩
  have hz : (s.heap.push o).objs.size = s.heap.objs.size + 1 := Heap.size_push ..
  show _ ∧ _
  rw [hz]
  have he : IsEnum ((s.heap.push o).push { cls := .type "enumerate", data := .fields #[.none, .bool false, .ref s.heap.objs.size, rawInt 0, .none, .none] }) (s.heap.objs.size + 1) s.heap.objs.size 0 .none := by
    have := Heap.get?_push_size (s.heap.push o) (o := { cls := .type "enumerate", data := .fields #[.none, .bool false, .ref s.heap.objs.size, rawInt 0, .none, .none] }) rfl
    rw [hz] at this; exact this
  exact ⟨⟨_, he, rfl⟩, h _ he (Heap.get?_push_of_some _ (Heap.get?_push_size _ B.free)) (by rw [Heap.size_push, hz]) fun b o x => Heap.get?_push_of_some _ (Heap.get?_push_of_some _ x)⟩
theorem pi_enumB {X : Cx} {e : Expr} {ta : TA} {p pos tpos : Pos} {elts : List Expr} {kk : Nat} (hg : Gl X "enumerate") (hm : X.mg "enumerate" = none) (ha : PA X [e] ta) (hs : starEach [e] X.env = [(false, eval e X.env)] := by rfl) :
    PI X (.Tuple elts kk tpos) (.Call (.Name "enumerate" p) [e] [] pos) (fun σ H R => ta σ H fun vs H1 => ∃ b a xs, vs = [.ref a] ∧ SqB b X.K H1 a xs ∧ R (IteB b X.K a) H1) := by
  refine ⟨fun pins s σ H R I h => ?_⟩
  refine Call_ (ld_blt I hg hm boot_enumerate (PyProof.Rows.callWith_type1 (thn (ha.run pos pins s σ H _ I h) fun us s1 ⟨vs, H1, I1, r1, q1⟩ => ?_) hs rfl))
  obtain ⟨b, a, xs, ex, hq, q⟩ := q1
  subst ex
  cases r1 with
  | cons r rr =>
    cases rr
    cases r
    obtain ⟨its, rv, p', hz⟩ := Nt.Inv.seqB I1 hq
    obtain ⟨o, B, hB⟩ := beginsB b a its.toArray
    refine enum_begins1 B p' fun h' he hit hsz hk => wpAny_pyIter_enum he ?_
    have I2 : Inv X pins σ H1 { s1 with heap := h' } := I1.kept (t' := s1.toks) hk
    have ha : s1.heap.objs.size + 1 ≠ a := fun z => by
      have hl : a < s1.heap.objs.size := by
        cases b with
        | true => obtain ⟨o, e, _⟩ := p'; exact Heap.lt_size e
        | false => obtain ⟨o, e, _⟩ := p'; exact Heap.lt_size e
      rw [← z] at hl
      exact absurd hl (Nat.not_lt.mpr (Nat.le_succ _))
    refine ⟨s1.heap.objs.size + 1, [s1.heap.objs.size + 1, s1.heap.objs.size], _, _, H1, rfl, I2, turn_enumB b a (s1.heap.objs.size + 1) s1.heap.objs.size, ⟨⟨.none, he⟩, hB _ _ hit, Nat.succ_ne_self _, ha⟩, fun b hb => ?_, q⟩
    have e' : b = s1.heap.objs.size + 1 ∨ b = s1.heap.objs.size := by simpa using hb
    have hle : s1.heap.objs.size ≤ b := by
      rcases e' with z | z
      · rw [z]; exact Nat.le_add_right _ _
      · rw [z]; exact Nat.le_refl _
    exact I1.fpOk hle (I1.hok.fresh hle)

/-! ### zip of two -/
def ItzB (b1 b2 : Bool) (K : PySem.W.Frag) (a b : Addr) : It :=
  ⟨fun i H => ∃ (xs ys : List V) (x y : V), SqB b1 K H a xs ∧ SqB b2 K H b ys ∧ xs[i]? = some x ∧ ys[i]? = some y,
    fun i H v H' => ∃ T x y, v = .ref T ∧ H T = none ∧ H' = upd H T (.tup [x, y]) ∧ (∀ xs, SqB b1 K H a xs → xs[i]? = some x) ∧ ∀ ys, SqB b2 K H b ys → ys[i]? = some y,
    fun i H => ∃ xs ys : List V, SqB b1 K H a xs ∧ SqB b2 K H b ys ∧ i = min xs.length ys.length⟩
/-- the cells of a zip, apart from one another and from what is zipped -/
structure Zap (z TI TO i1 i2 a b : Addr) : Prop where
  TIz : TI ≠ z
  TOz : TO ≠ z
  TITO : TI ≠ TO
  TIi1 : TI ≠ i1
  TIi2 : TI ≠ i2
  zi1 : z ≠ i1
  zi2 : z ≠ i2
  Ti1 : TO ≠ i1
  Ti2 : TO ≠ i2
  i12 : i1 ≠ i2
  za : z ≠ a
  zb : z ≠ b
  Ta : TO ≠ a
  Tb : TO ≠ b
  i1b : i1 ≠ b
  i2a : i2 ≠ a
theorem zap_of {N a b : Nat} (ha : a < N) (hb : b < N) : Zap (N + 4) (N + 2) (N + 3) N (N + 1) a b := by
  constructor <;> (show (_ : Nat) ≠ (_ : Nat)) <;> omega
theorem Zap.sep {z TI TO i1 i2 a b : Addr} (D : Zap z TI TO i1 i2 a b) : ZipSep2 z TI TO i1 i2 [i1, a] [i2, b] :=
  ⟨D.TIz, D.TOz, D.TITO, D.TIi1, by simp, by simp [D.zi1, D.za], by simp [D.Ti1, D.Ta], D.TIi2, by simp, by simp [D.zi2, D.zb], by simp [D.Ti2, D.Tb], by simp [D.i12, D.i1b], by simp [Ne.symm D.i12, D.i2a]⟩
theorem turn_zipB {P : Program} {w : World} {K : PySem.W.Frag} {elts : List Expr} {kk : Nat} {tpos : Pos} (b1 b2 : Bool) {a b z TI TO i1 i2 : Addr} (D : Zap z TI TO i1 i2 a b) :
    Turn P w K (.Tuple elts kk tpos) (ItzB b1 b2 K a b) [z, TI, TO, i1, i2] z (fun i h => IsZip h z TI TO .none ∧ IsTupOf2 h TI (.ref i1) (.ref i2) ∧ (∃ x y, IsTupOf2 h TO x y) ∧ ItB b1 h i1 a i ∧ ItB b2 h i2 b i) where
  mem := by simp
  obj := fun i h st c hc => by
    obtain ⟨hz, hTI, ⟨x, y, hTO⟩, h1, h2⟩ := st
    have e' : c = z ∨ c = TI ∨ c = TO ∨ c = i1 ∨ c = i2 := by simpa using hc
    rcases e' with q | q | q | q | q
    · rw [q]; exact ⟨_, hz, fun v q => nomatch q⟩
    · rw [q]; exact ⟨_, hTI, fun v q => nomatch q⟩
    · rw [q]; exact ⟨_, hTO, fun v q => nomatch q⟩
    · rw [q]; exact h1.there
    · rw [q]; exact h2.there
  keep := fun i h h' st k => by
    obtain ⟨hz, hTI, ⟨x, y, hTO⟩, h1, h2⟩ := st
    exact ⟨k z (by simp) _ hz, k TI (by simp) _ hTI, ⟨x, y, k TO (by simp) _ hTO⟩, h1.at fun o q => k i1 (by simp) o q, h2.at fun o q => k i2 (by simp) o q⟩
  item := by
    intro X hP hw hK hc i pins s σ H E I hf st hg
    subst hP hw hK
    obtain ⟨hz, hTI, ⟨x0, y0, hTO⟩, h1, h2⟩ := st
    obtain ⟨xs, ys, x, y, hqx, hqy, hx, hy⟩ := hg
    obtain ⟨its, rv, p, _⟩ := Nt.Inv.seqB I hqx
    obtain ⟨its2, rv2, p2, _⟩ := Nt.Inv.seqB I hqy
    obtain ⟨u, hu, ru⟩ := rv.get hx
    obtain ⟨u2, hu2, ru2⟩ := rv2.get hy
    have hzl : z < s.heap.objs.size := Heap.lt_size hz
    have hlt1 : i < its.toArray.size := by simpa using (List.getElem?_eq_some_iff.mp hu).1
    have hlt2 : i < its2.toArray.size := by simpa using (List.getElem?_eq_some_iff.mp hu2).1
    refine wpAny_pyNext_zipD2_item D.sep (drawsB (A := X.A.in1) (I.ok.hd hc) b1 i1 a (ObB.ne h1 p) its.toArray) (drawsB (A := X.A.in1) (I.ok.hd hc) b2 i2 b (ObB.ne h2 p2) its2.toArray) hz hTI hTO ⟨h1, p⟩ ⟨h2, p2⟩ hlt1 hlt2 fun v1 v2 h' tk e1 e2 z' TO' s1' s2' hT hsz hk => ?_
    have ev1 : v1 = u := by
      have : its[i]? = some v1 := by simpa using e1
      rw [hu] at this; exact (Option.some.inj this).symm
    have ev2 : v2 = u2 := by
      have : its2[i]? = some v2 := by simpa using e2
      rw [hu2] at this; exact (Option.some.inj this).symm
    subst ev1
    subst ev2
    refine ⟨_, rfl, wpAny_letOwnedTupleGo_zip (s := { s with heap := h', toks := tk }) z' fun h'' z'' sb => ?_⟩
    have hT2 : h''.get? s.heap.objs.size = some { cls := .type "tuple", data := .seq #[v1, v2] } := (sb.2 _ (Nat.ne_of_gt hzl)).trans hT
    have new : ObjOk X.prog X.w (upd H s.heap.objs.size (.tup [x, y])) h'' s.heap.objs.size (.tup [x, y]) :=
      ⟨by show 2 ≤ sizeLine; decide, [v1, v2], .cons ru (.cons ru2 .nil), ⟨_, hT2, rfl, _, rfl⟩⟩
    have I1 : Inv X pins σ (upd H s.heap.objs.size (.tup [x, y])) { s with heap := h'', toks := tk } :=
      I.turnedNew (t' := tk) (ch := [z, TI, TO, i1, i2]) (fun c o hb q => (sb.2 c (fun q' => hb (by simp [q']))).trans (hk c o (fun q' => hb (by simp [q'])) (fun q' => hb (by simp [q'])) (fun q' => hb (by simp [q'])) (fun q' => hb (by simp [q'])) q)) hf (Nat.le_refl _) new
    refine ⟨.ref s.heap.objs.size, _, I1, rfl, ⟨_, x, y, rfl, I.hok.fresh (Nat.le_refl _), rfl, fun l hl => by rw [Nt.Inv.seqB_inj I hl hqx]; exact hx, fun l hl => by rw [Nt.Inv.seqB_inj I hl hqy]; exact hy⟩, ⟨z'', ?_, ⟨v1, v2, ?_⟩, ?_, ?_⟩, fun c hcm => ?_⟩
    · exact (sb.2 _ D.TIz).trans (hk _ _ D.TIz D.TITO D.TIi1 D.TIi2 hTI)
    · exact (sb.2 _ D.TOz).trans TO'
    · exact s1'.1.at fun o q => (sb.2 _ (Ne.symm D.zi1)).trans q
    · exact s2'.1.at fun o q => (sb.2 _ (Ne.symm D.zi2)).trans q
    · have hlt : c < s.heap.objs.size := by
        have e' : c = z ∨ c = TI ∨ c = TO ∨ c = i1 ∨ c = i2 := by simpa using hcm
        rcases e' with q | q | q | q | q
        · rw [q]; exact hzl
        · rw [q]; exact Heap.lt_size hTI
        · rw [q]; exact Heap.lt_size hTO
        · rw [q]; obtain ⟨_, e1, _⟩ := h1.there; exact Heap.lt_size e1
        · rw [q]; obtain ⟨_, e2, _⟩ := h2.there; exact Heap.lt_size e2
      rw [upd_ne (Nat.ne_of_lt hlt)]
      exact (hf c hcm).1
  done := by
    intro X hP hw hK hc i pins s σ H E I hf st hg
    subst hP hw hK
    obtain ⟨hz, hTI, ⟨x0, y0, hTO⟩, h1, h2⟩ := st
    obtain ⟨xs, ys, hqx, hqy, hend⟩ := hg
    obtain ⟨its, rv, p, _⟩ := Nt.Inv.seqB I hqx
    obtain ⟨its2, rv2, p2, _⟩ := Nt.Inv.seqB I hqy
    have l1 := rv.length
    have l2 := rv2.length
    exact wpAny_pyNext_zipD2_end D.sep (drawsB (A := X.A.in1) (I.ok.hd hc) b1 i1 a (ObB.ne h1 p) its.toArray) (drawsB (A := X.A.in1) (I.ok.hd hc) b2 i2 b (ObB.ne h2 p2) its2.toArray) hz hTI hTO ⟨h1, p⟩ ⟨h2, p2⟩ (by simp; omega) (by simp; omega) (by simp; omega) fun h' tk hk => ⟨rfl, I.turnedL (t' := tk) (ch := [z, TI, TO, i1, i2]) (fun c o hb q =>
      hk c o (fun q' => hb (by simp [q'])) (fun q' => hb (by simp [q'])) (fun q' => hb (by simp [q'])) (fun q' => hb (by simp [q'])) q) hf⟩
  self := fun A i s Q E st h => wpAny_pyIter_zip st.1 h
theorem pi_zipB {X : Cx} {e e2 : Expr} {ta : TA} {p pos tpos : Pos} {elts : List Expr} {kk : Nat} (hg : Gl X "zip") (hm : X.mg "zip" = none) (ha : PA X [e, e2] ta)
    (hs : starEach [e, e2] X.env = (false, eval e X.env) :: starEach [e2] X.env := by rfl) (hpl : (backTo pos (starEach [e2] X.env)).any (·.1) = false := by rfl) :
    PI X (.Tuple elts kk tpos) (.Call (.Name "zip" p) [e, e2] [] pos) (fun σ H R => ta σ H fun vs H1 => ∃ b1 b2 a b xs ys, vs = [.ref a, .ref b] ∧ SqB b1 X.K H1 a xs ∧ SqB b2 X.K H1 b ys ∧ R (ItzB b1 b2 X.K a b) H1) := by
  refine ⟨fun pins s σ H R I h => ?_⟩
  refine Call_ (ld_blt I hg hm boot_zip (PyProof.Rows.callWith_type1 (thn (ha.run pos pins s σ H _ I h) fun us s1 ⟨vs, H1, I1, r1, q1⟩ => ?_) hs hpl))
  obtain ⟨b1, b2, a, b, xs, ys, ex, hq, hq2, q⟩ := q1
  subst ex
  cases r1 with
  | cons r rr =>
    cases rr with
    | cons r' rr =>
      cases rr
      cases r
      cases r'
      obtain ⟨its, rv, p1, hz1⟩ := Nt.Inv.seqB I1 hq
      obtain ⟨its2, rv2, p2, hz2⟩ := Nt.Inv.seqB I1 hq2
      obtain ⟨o1, B1, hB1⟩ := beginsB b1 a its.toArray
      obtain ⟨o2, B2, hB2⟩ := beginsB b2 b its2.toArray
      have la : a < s1.heap.objs.size := by
        cases b1 with
        | true => obtain ⟨o, e, _⟩ := p1; exact Heap.lt_size e
        | false => obtain ⟨o, e, _⟩ := p1; exact Heap.lt_size e
      have lb : b < s1.heap.objs.size := by
        cases b2 with
        | true => obtain ⟨o, e, _⟩ := p2; exact Heap.lt_size e
        | false => obtain ⟨o, e, _⟩ := p2; exact Heap.lt_size e
      refine zip_begins2 B1 B2 p1 p2 fun h' hz hTI hTO h1 h2 hsz hk => wpAny_pyIter_zip hz ?_
      have I2 : Inv X pins σ H1 { s1 with heap := h' } := I1.kept (t' := s1.toks) hk
      refine ⟨s1.heap.objs.size + 4, [s1.heap.objs.size + 4, s1.heap.objs.size + 2, s1.heap.objs.size + 3, s1.heap.objs.size, s1.heap.objs.size + 1], _, _, H1, rfl, I2,
        turn_zipB b1 b2 (a := a) (b := b) (z := s1.heap.objs.size + 4) (TI := s1.heap.objs.size + 2) (TO := s1.heap.objs.size + 3) (i1 := s1.heap.objs.size) (i2 := s1.heap.objs.size + 1)
          (zap_of la lb), ⟨hz, hTI, ⟨_, _, hTO⟩, hB1 _ _ h1, hB2 _ _ h2⟩, fun c hb => ?_, q⟩
      have hle : s1.heap.objs.size ≤ c := by
        have e' : c = s1.heap.objs.size + 4 ∨ c = s1.heap.objs.size + 2 ∨ c = s1.heap.objs.size + 3 ∨ c = s1.heap.objs.size ∨ c = s1.heap.objs.size + 1 := by simpa using hb
        rcases e' with q | q | q | q | q <;> rw [q] <;> first | exact Nat.le_refl _ | exact Nat.le_add_right _ _
      exact I1.fpOk hle (I1.hok.fresh hle)
end Nt

namespace Nt
open PySem PySem.Spec L2
open PyProof.Rows hiding St

section
variable {X : Cx} {W : WX} {tg e : Expr} {me : Nv → M D} {pos : Pos}
/-! ### what a for or a comprehension walks -/
/-- the store's lists that are walked must stand -/
def srcG (S : Sto) : D → (Sto → Prop)
  | .ref n => fun S' => S'[n]? = S[n]?
  | _ => fun _ => True
theorem seqB_ok {K : PySem.W.Frag} {mg : Str → Option Value} {G : Hp} {ψ : List Addr} {S : Sto} {H : Hp} (R : Rep K mg G ψ S H) {d : D} {v : V} (r : DV K G ψ d v) {xs : List D} (e : seqD S d = some xs) :
    ∃ b p, v = .ref p ∧ (∃ vs, SqB b K H p vs) ∧ xs.length ≤ sizeLine ∧ ∀ G' ψ' S' H', Same G G' → (∀ (n : Nat) (a : Addr), ψ[n]? = some a → ψ'[n]? = some a) → Rep K mg G' ψ' S' H' → srcG S d S' → ∃ vs, SqB b K H' p vs ∧ DVs K G' ψ' xs vs := by
  cases r with
  | tup h z r => cases e; exact ⟨false, _, rfl, ⟨_, Same.seqT R.sub h⟩, by rw [r.length]; exact z, fun G' ψ' S' H' sg sp R' _ => ⟨_, Same.seqT R'.sub (Same.seqT sg h), r.up sg sp⟩⟩
  | lst h z r => cases e; exact ⟨true, _, rfl, ⟨_, SqL.of (R.sub _ _ h)⟩, by rw [r.length]; exact z, fun G' ψ' S' H' sg sp R' _ => ⟨_, SqL.of (R'.sub _ _ (sg _ _ h)), r.up sg sp⟩⟩
  | @scr ns a h z => cases e; exact ⟨true, _, rfl, ⟨_, R.sub.seq h⟩, by rw [List.length_map]; exact z, fun G' ψ' S' H' sg sp R' _ => ⟨_, R'.sub.seq (sg.seq h), DVs.ints ns⟩⟩
  | @ref n a h =>
    dsimp only [seqD] at e
    cases q : S[n]? with
    | none => rw [q] at e; cases e
    | some o =>
      rw [q] at e
      cases o with
      | lst ys =>
        obtain ⟨a', ha, _, vs, hv, z, r⟩ := R.sto n _ q
        rw [h] at ha; cases ha
        cases e
        refine ⟨true, _, rfl, ⟨vs, SqL.of hv⟩, by rw [r.length]; exact z, fun G' ψ' S' H' sg sp R' gd => ?_⟩
        have gd' : S'[n]? = some (.lst xs) := by rw [← q]; exact gd
        obtain ⟨a', ha, _, vs', hv', z', r'⟩ := R'.sto n _ gd'
        rw [sp n a h] at ha; cases ha
        exact ⟨vs', SqL.of hv', r'⟩
      | ins c fs => cases e
      | dct c => cases e
  | _ => cases e
def iSeq (m : Nv → M D) : Nv → M Its' := fun ρ => bnd (m ρ) fun d => ask fun S => (seqD S d).map fun xs => (xs, srcG S d)
theorem pi_seq {l : Expr} {tl : TE} (hl : PE X l tl) : PI X tg l (fun σ H R => tl σ H fun x H1 => ∃ b a xs, x = .ref a ∧ SqB b X.K H1 a xs ∧ R (match b with | true => Itl X.K a | false => Itt X.K a) H1) := by
  refine ⟨fun pins s σ H R I h => ?_⟩
  refine thn (hl.run pins s σ H _ I h) fun v s1 ⟨x, H1, I1, r1, q1⟩ => ?_
  obtain ⟨b, a, xs, e, hq, q⟩ := q1
  subst e
  cases r1
  cases b with
  | true =>
    obtain ⟨its, rv, p, hz⟩ := I1.list hq
    refine wpAny_pyIter_list p.isList ?_
    refine ⟨s1.heap.objs.size, [s1.heap.objs.size], _, _, H1, rfl, I1.kept (t' := s1.toks) fun b o e => Heap.get?_push_of_some _ e, turn_list a _, ⟨_, Heap.get?_push_size _ rfl, rfl, rfl⟩, fun b hb => ?_, q⟩
    have e : b = s1.heap.objs.size := by simpa using hb
    subst e
    exact I1.fpOk (Nat.le_refl _) (I1.hok.fresh (Nat.le_refl _))
  | false =>
    obtain ⟨its, rv, p, hz⟩ := I1.tuple hq
    refine wpAny_pyIter_tuple (show s1.heap.IsTuple a its.toArray from p) ?_
    refine ⟨s1.heap.objs.size, [s1.heap.objs.size], _, _, H1, rfl, I1.kept (t' := s1.toks) fun b o e => Heap.get?_push_of_some _ e, turn_tuple a _, ⟨_, Heap.get?_push_size _ rfl, rfl, rfl⟩, fun b hb => ?_, q⟩
    have e : b = s1.heap.objs.size := by simpa using hb
    subst e
    exact I1.fpOk (Nat.le_refl _) (I1.hok.fresh (Nat.le_refl _))
theorem Fin.map {K : PySem.W.Frag} {mg : Str → Option Value} {α β : Type} {G : Hp} {ψ : List Addr} {H : Hp} {W : XD} {f : Sto → Option α} {g : Sto → α → β} {S : Sto} {q : β → Sto → Hp → List Addr → Hp → Prop} (h : Fin K mg G ψ H W (Nt.ask (fun S => (f S).map (g S)) S) q) :
    ∃ a, f S = some a ∧ Fin K mg G ψ H W (.ok (g S a) S) q := by
  obtain ⟨b, e, F⟩ := h.ask
  cases q : f S with
  | none => rw [q] at e; cases e
  | some a => rw [q] at e; cases e; exact ⟨a, rfl, F⟩
theorem di_seq (h : DE X W e me) : DI X W tg e (iSeq me) := by
  refine ⟨PIimp (pi_seq h.pe) ?_⟩
  rintro σ H Rr ⟨G, ψ, S, ρ, R, E, F⟩
  refine ⟨G, ψ, S, ρ, R, E, F.bnd fun d S1 G1 ψ1 H1 X1 R1 F1 v dv => ?_⟩
  obtain ⟨xs, e, F2⟩ := F1.map
  obtain ⟨b, p, rfl, ⟨vs0, hq0⟩, hl, st⟩ := seqB_ok R1 dv e
  refine ⟨b, p, vs0, rfl, hq0, F2.done Ext.refl R1 _ _ _ Ext.refl R1 ⟨hl, fun G' ψ' S' H' sg sp R' gd => ?_, fun G' ψ' S' H' sg sp R' gd i d' hd => ?_⟩⟩
  · obtain ⟨vs, hq, r⟩ := st G' ψ' S' H' sg sp R' gd
    cases b with
    | true => exact ⟨vs, hq, by rw [r.length]; exact Nat.le_refl _⟩
    | false => exact ⟨vs, hq, by rw [r.length]; exact Nat.le_refl _⟩
  · obtain ⟨vs, hq, r⟩ := st G' ψ' S' H' sg sp R' gd
    obtain ⟨v, hv, dv'⟩ := r.get hd
    cases b with
    | true =>
      refine ⟨⟨vs, v, hq, hv⟩, fun x H'' y => ?_⟩
      obtain ⟨e1, e2⟩ := y
      have := e2 vs hq
      rw [hv] at this; cases this
      subst e1
      exact ⟨G', Ext.refl, R', dv'⟩
    | false =>
      refine ⟨⟨vs, v, hq, hv⟩, fun x H'' y => ?_⟩
      obtain ⟨e1, e2⟩ := y
      have := e2 vs hq
      rw [hv] at this; cases this
      subst e1
      exact ⟨G', Ext.refl, R', dv'⟩
/-- a pair just laid -/
theorem pair_new {K : PySem.W.Frag} {mg : Str → Option Value} {G : Hp} {ψ : List Addr} {S : Sto} {H : Hp} (R : Rep K mg G ψ S H) {T : Addr} {x y : V} {d1 d2 : D} (hT : H T = none) (h1 : DV K G ψ d1 x) (h2 : DV K G ψ d2 y) :
    ∃ G'', Ext G ψ H G'' ψ (upd H T (.tup [x, y])) ∧ Rep K mg G'' ψ S (upd H T (.tup [x, y])) ∧ DV K G'' ψ (.tup [d1, d2]) (.ref T) := by
  have z := Ext.lay (o := .tup [x, y]) R hT
  exact ⟨_, z, R.lay hT, .tup (SqT.of upd_same) (by show 2 ≤ sizeLine; decide) (.cons (z.dv h1) (.cons (z.dv h2) .nil))⟩
def pairsI (k : Nat) : List D → List D
  | [] => []
  | d :: ds => .tup [.int (k : Nat), d] :: pairsI (k + 1) ds
theorem pairsI_len : ∀ (k : Nat) (ds : List D), (pairsI k ds).length = ds.length
  | _, [] => rfl
  | k, d :: ds => by show (pairsI (k + 1) ds).length + 1 = _; rw [pairsI_len]; rfl
theorem pairsI_get : ∀ (k : Nat) (ds : List D) (i : Nat), (pairsI k ds)[i]? = (ds[i]?).map fun d => .tup [.int ((k + i : Nat) : Int), d]
  | _, [], _ => by simp [pairsI]
  | k, d :: ds, 0 => by simp [pairsI]
  | k, d :: ds, i + 1 => by
    have := pairsI_get (k + 1) ds i
    rw [pairsI, List.getElem?_cons_succ, List.getElem?_cons_succ, this, show k + 1 + i = k + (i + 1) by omega]
def iEnu (m : Nv → M D) : Nv → M Its' := fun ρ => bnd (m ρ) fun d => ask fun S => (seqD S d).map fun xs => (pairsI 0 xs, srcG S d)
theorem di_enum {p tpos : Pos} {elts : List Expr} {kk : Nat} (hg : Gl X "enumerate") (hm : X.mg "enumerate" = none) (h : DE X W e me) (hs : starEach [e] X.env = [(false, eval e X.env)] := by rfl) :
    DI X W (.Tuple elts kk tpos) (.Call (.Name "enumerate" p) [e] [] pos) (iEnu me) := by
  refine ⟨PIimp (pi_enumB hg hm (pa_cons h.pe pa_nil hs) hs) ?_⟩
  rintro σ H Rr ⟨G, ψ, S, ρ, R, E, F⟩
  refine ⟨G, ψ, S, ρ, R, E, F.bnd fun d S1 G1 ψ1 H1 X1 R1 F1 v dv => ?_⟩
  obtain ⟨xs, e, F2⟩ := F1.map
  obtain ⟨b, p, rfl, ⟨vs0, hq0⟩, hl, st⟩ := seqB_ok R1 dv e
  refine ⟨b, p, vs0, rfl, hq0, F2.done Ext.refl R1 _ _ _ Ext.refl R1 ⟨by rw [pairsI_len]; exact hl, fun G' ψ' S' H' sg sp R' gd => ?_, fun G' ψ' S' H' sg sp R' gd i d' hd => ?_⟩⟩
  · obtain ⟨vs, hq, r⟩ := st G' ψ' S' H' sg sp R' gd
    exact ⟨vs, hq, by show vs.length = (pairsI 0 xs).length; rw [pairsI_len, r.length]⟩
  · obtain ⟨vs, hq, r⟩ := st G' ψ' S' H' sg sp R' gd
    replace hd : (pairsI 0 xs)[i]? = some d' := hd
    rw [pairsI_get] at hd
    cases q : xs[i]? with
    | none => rw [q] at hd; cases hd
    | some d0 =>
      rw [q] at hd
      cases hd
      obtain ⟨v, hv, dv'⟩ := r.get q
      refine ⟨⟨vs, v, hq, hv⟩, fun x H'' y => ?_⟩
      obtain ⟨T, x', rfl, hT, rfl, e2⟩ := y
      have := e2 vs hq
      rw [hv] at this; cases this
      have ei : ((0 + i : Nat) : Int) = ((i : Nat) : Int) := by omega
      rw [ei]
      exact pair_new R' hT (.int _) dv'
def pairs2 : List D → List D → List D
  | x :: xs, y :: ys => .tup [x, y] :: pairs2 xs ys
  | _, _ => []
theorem pairs2_len : ∀ (xs ys : List D), (pairs2 xs ys).length = min xs.length ys.length
  | x :: xs, y :: ys => by show (pairs2 xs ys).length + 1 = _; rw [pairs2_len]; simp only [List.length_cons]; omega
  | [], ys => by cases ys <;> simp [pairs2]
  | x :: xs, [] => by simp [pairs2]
theorem pairs2_get : ∀ (xs ys : List D) (i : Nat) (d : D), (pairs2 xs ys)[i]? = some d → ∃ x y, xs[i]? = some x ∧ ys[i]? = some y ∧ d = .tup [x, y]
  | x :: xs, y :: ys, 0, d, h => by simp [pairs2] at h; exact ⟨x, y, rfl, rfl, h.symm⟩
  | x :: xs, y :: ys, i + 1, d, h => by
    rw [pairs2, List.getElem?_cons_succ] at h
    obtain ⟨a, b, h1, h2, h3⟩ := pairs2_get xs ys i d h
    exact ⟨a, b, by simpa using h1, by simpa using h2, h3⟩
  | [], ys, i, d, h => by cases ys <;> simp [pairs2] at h
  | x :: xs, [], i, d, h => by simp [pairs2] at h
def iZp (m m' : Nv → M D) : Nv → M Its' := fun ρ => bnd (m ρ) fun d => bnd (m' ρ) fun d' => ask fun S => ((seqD S d).bind fun xs => (seqD S d').map fun ys => (xs, ys)).map fun p => (pairs2 p.1 p.2, fun S' => srcG S d S' ∧ srcG S d' S')
theorem di_zip {e2 : Expr} {me2 : Nv → M D} {p tpos : Pos} {elts : List Expr} {kk : Nat} (hg : Gl X "zip") (hm : X.mg "zip" = none) (h : DE X W e me) (h2 : DE X W e2 me2)
    (hs : starEach [e, e2] X.env = (false, eval e X.env) :: starEach [e2] X.env := by rfl) (hs2 : starEach [e2] X.env = (false, eval e2 X.env) :: starEach [] X.env := by rfl) (hpl : (backTo pos (starEach [e2] X.env)).any (·.1) = false := by rfl) :
    DI X W (.Tuple elts kk tpos) (.Call (.Name "zip" p) [e, e2] [] pos) (iZp me me2) := by
  refine ⟨PIimp (pi_zipB hg hm (pa_cons h.pe (pa_cons h2.pe pa_nil hs2) hs) hs hpl) ?_⟩
  rintro σ H Rr ⟨G, ψ, S, ρ, R, E, F⟩
  refine ⟨G, ψ, S, ρ, R, E, F.bnd fun d S1 G1 ψ1 H1 X1 R1 F1 v dv => ⟨G1, ψ1, S1, ρ, R1, E.up X1, F1.bnd fun d2 S2 G2 ψ2 H2 X2 R2 F2 v2 dv2 => ?_⟩⟩
  obtain ⟨pr, e, F3⟩ := F2.map
  cases q1 : seqD S2 d with
  | none => rw [q1] at e; cases e
  | some xs =>
    rw [q1] at e
    cases q2 : seqD S2 d2 with
    | none => rw [Option.bind_some, q2] at e; cases e
    | some ys =>
      rw [Option.bind_some, q2] at e
      cases e
      obtain ⟨b1, p1, rfl, ⟨us0, hu0⟩, hl1, st1⟩ := seqB_ok R2 (X2.dv dv) q1
      obtain ⟨b2, p2, rfl, ⟨vs0, hq0⟩, hl2, st2⟩ := seqB_ok R2 dv2 q2
      refine ⟨b1, b2, p1, p2, us0, vs0, rfl, hu0, hq0, F3.done Ext.refl R2 _ _ _ Ext.refl R2 ⟨by show (pairs2 xs ys).length ≤ _; rw [pairs2_len]; omega, fun G' ψ' S' H' sg sp R' gd => ?_, fun G' ψ' S' H' sg sp R' gd i d' hd => ?_⟩⟩
      · obtain ⟨us, hu, r1⟩ := st1 G' ψ' S' H' sg sp R' gd.1
        obtain ⟨vs, hq, r2⟩ := st2 G' ψ' S' H' sg sp R' gd.2
        exact ⟨us, vs, hu, hq, by show (pairs2 xs ys).length = _; rw [pairs2_len, r1.length, r2.length]⟩
      · obtain ⟨us, hu, r1⟩ := st1 G' ψ' S' H' sg sp R' gd.1
        obtain ⟨vs, hq, r2⟩ := st2 G' ψ' S' H' sg sp R' gd.2
        obtain ⟨x, y, hx, hy, rfl⟩ := pairs2_get xs ys i d' hd
        obtain ⟨u, hu', du⟩ := r1.get hx
        obtain ⟨v, hv', dv'⟩ := r2.get hy
        refine ⟨⟨us, vs, u, v, hu, hq, hu', hv'⟩, fun z H'' w => ?_⟩
        obtain ⟨T, x', y', rfl, hT, rfl, e1, e2⟩ := w
        have := e1 us hu
        rw [hu'] at this; cases this
        have := e2 vs hq
        rw [hv'] at this; cases this
        exact pair_new R' hT du dv'
def rangeD (lo : Int) (n : Nat) : List D := (List.range n).map fun i => D.int (lo + ((i : Nat) : Int))
def rgOf (a b : D) : M Its' := match a, b with
  | .int i, .int j => if -(2 ^ 62) ≤ i ∧ i < 2 ^ 62 ∧ -(2 ^ 62) ≤ j ∧ j < 2 ^ 62 ∧ (j - i).toNat ≤ sizeLine then ret (rangeD i (j - i).toNat, fun _ => True) else bad
  | _, _ => bad
def iRg (lo hi : Nv → M D) : Nv → M Its' := fun ρ => bnd (lo ρ) fun a => bnd (hi ρ) fun b => rgOf a b
def iRg1 (hi : Nv → M D) : Nv → M Its' := fun ρ => bnd (hi ρ) fun b => rgOf (.int 0) b
theorem itD_range {K : PySem.W.Frag} {mg : Str → Option Value} {G : Hp} {ψ : List Addr} {lo : Int} {n : Nat} (h : n ≤ sizeLine) : ItD K mg (fun _ => True) (Itr lo n) G ψ (rangeD lo n) := by
  refine ⟨by simpa [rangeD] using h, fun G' ψ' S' H' sg sp R' gd => ?_, fun G' ψ' S' H' sg sp R' gd i d hd => ?_⟩
  · show n ≤ (rangeD lo n).length; simp [rangeD]
  · unfold rangeD at hd
    rw [List.getElem?_map] at hd
    cases q : (List.range n)[i]? with
    | none => rw [q] at hd; cases hd
    | some k =>
      rw [q] at hd
      cases hd
      obtain ⟨h1, h2⟩ := List.getElem?_eq_some_iff.mp q
      simp at h1 h2
      subst h2
      refine ⟨h1, fun x H'' y => ?_⟩
      obtain ⟨e1, e2⟩ := y
      subst e1; subst e2
      exact ⟨G', Ext.refl, R', .int _⟩
theorem di_rng1 {p : Pos} (hg : Gl X "range") (hm : X.mg "range" = none) (h : DE X W e me) (hs : starEach [e] X.env = [(false, eval e X.env)] := by rfl) : DI X W tg (.Call (.Name "range" p) [e] [] pos) (iRg1 me) := by
  refine ⟨PIimp (pi_range1 hg hm (pa_cons h.pe pa_nil hs) hs) ?_⟩
  rintro σ H Rr ⟨G, ψ, S, ρ, R, E, F⟩
  refine ⟨G, ψ, S, ρ, R, E, F.bnd fun d S1 G1 ψ1 H1 X1 R1 F1 v dv => ?_⟩
  cases dv with
  | int j =>
    unfold rgOf at F1
    dsimp only at F1
    split at F1
    · rename_i hc
      obtain ⟨_, _, h1, h2, h3⟩ := hc
      rw [Int.sub_zero] at h3 F1
      exact ⟨j, rfl, h1, h2, F1.done Ext.refl R1 _ _ _ Ext.refl R1 (itD_range h3)⟩
    · exact F1.elim
  | _ => exact F1.elim
theorem di_rng2 {e2 : Expr} {me2 : Nv → M D} {p : Pos} (hg : Gl X "range") (hm : X.mg "range" = none) (h : DE X W e me) (h2 : DE X W e2 me2) (hs : starEach [e, e2] X.env = [(false, eval e X.env), (false, eval e2 X.env)] := by rfl) (hs2 : starEach [e2] X.env = [(false, eval e2 X.env)] := by rfl)
    (hsa : starEach [e, e2] X.env = (false, eval e X.env) :: starEach [e2] X.env := by rfl) (hsb : starEach [e2] X.env = (false, eval e2 X.env) :: starEach [] X.env := by rfl) : DI X W tg (.Call (.Name "range" p) [e, e2] [] pos) (iRg me me2) := by
  refine ⟨PIimp (pi_range2 hg hm (pa_cons h.pe (pa_cons h2.pe pa_nil hsb) hsa) hs hs2) ?_⟩
  rintro σ H Rr ⟨G, ψ, S, ρ, R, E, F⟩
  refine ⟨G, ψ, S, ρ, R, E, F.bnd fun d S1 G1 ψ1 H1 X1 R1 F1 v dv => ⟨G1, ψ1, S1, ρ, R1, E.up X1, F1.bnd fun d2 S2 G2 ψ2 H2 X2 R2 F2 v2 dv2 => ?_⟩⟩
  cases dv with
  | int i =>
    cases dv2 with
    | int j =>
      unfold rgOf at F2
      dsimp only at F2
      split at F2
      · rename_i hc
        obtain ⟨h0, h00, h1, h2, h3⟩ := hc
        exact ⟨i, j, rfl, ⟨h0, h00, h1, h2⟩, F2.done Ext.refl R2 _ _ _ Ext.refl R2 (itD_range h3)⟩
      · exact F2.elim
    | _ => exact F2.elim
  | _ => exact F2.elim
def signsD (z : Str) : List D := z.cps.toList.map fun c => D.str ⟨#[c]⟩
def iStr' (m : Nv → M D) : Nv → M Its' := fun ρ => bnd (m ρ) fun d => match d with
  | .str z => if z.length ≤ sizeLine then ret (signsD z, fun _ => True) else bad
  | _ => bad
theorem di_str (h : DE X W e me) : DI X W tg e (iStr' me) := by
  refine ⟨PIimp (pi_str h.pe) ?_⟩
  rintro σ H Rr ⟨G, ψ, S, ρ, R, E, F⟩
  refine ⟨G, ψ, S, ρ, R, E, F.bnd fun d S1 G1 ψ1 H1 X1 R1 F1 v dv => ?_⟩
  cases dv with
  | str z =>
    dsimp only at F1
    split at F1
    · rename_i hz
      refine ⟨z, rfl, F1.done Ext.refl R1 _ _ _ Ext.refl R1 ⟨?_, fun G' ψ' S' H' sg sp R' gd => ?_, fun G' ψ' S' H' sg sp R' gd i d' hd => ?_⟩⟩
      · show (signsD z).length ≤ _
        unfold signsD
        rw [List.length_map]
        exact hz
      · show z.cps.size ≤ (signsD z).length
        simp [signsD]
      · replace hd : (signsD z)[i]? = some d' := hd
        unfold signsD at hd
        rw [List.getElem?_map] at hd
        cases q : z.cps.toList[i]? with
        | none => rw [q] at hd; cases hd
        | some c =>
          rw [q] at hd
          cases hd
          have q' : z.cps[i]? = some c := by simpa using q
          refine ⟨(Array.getElem?_eq_some_iff.mp q').1, fun x H'' y => ?_⟩
          obtain ⟨e1, c', e2, e3⟩ := y
          rw [q'] at e2; cases e2
          subst e1; subst e3
          exact ⟨G', Ext.refl, R', .str _⟩
    · exact F1.elim
  | _ => exact F1.elim
end
end Nt

namespace Nt
open PySem PySem.Spec L2
open PyProof.Rows hiding St

section
variable {K : PySem.W.Frag} {mg : Str → Option Value} {G : Hp} {ψ : List Addr} {S : Sto} {H : Hp}
/-- a list that was made at run time -/
def lstD (S : Sto) : D → Option (List D)
  | .lst xs => some xs
  | .ref n => match S[n]? with | some (.lst xs) => some xs | _ => none
  | _ => none
theorem lstD_ok (R : Rep K mg G ψ S H) {d : D} {v : V} (r : DV K G ψ d v) {xs : List D} (e : lstD S d = some xs) : ∃ p vs, v = .ref p ∧ H p = some (.lst vs) ∧ vs.length ≤ sizeLine ∧ DVs K G ψ xs vs := by
  cases r with
  | lst h z r => cases e; exact ⟨_, _, rfl, R.sub _ _ h, z, r⟩
  | @ref n a h =>
    dsimp only [lstD] at e
    cases q : S[n]? with
    | none => rw [q] at e; cases e
    | some o =>
      rw [q] at e
      cases o with
      | lst ys =>
        obtain ⟨a', ha, _, vs, hv, z, r⟩ := R.sto n _ q
        rw [h] at ha; cases ha
        cases e
        exact ⟨_, vs, rfl, hv, z, r⟩
      | ins c fs => cases e
      | dct c => cases e
  | _ => cases e
/-- a list that may be read -/
def rdlD (S : Sto) : D → Option (List D)
  | .lst xs => some xs
  | .scr ns => some (ns.map D.int)
  | .ref n => match S[n]? with | some (.lst xs) => some xs | _ => none
  | _ => none
theorem rdlD_ok (R : Rep K mg G ψ S H) {d : D} {v : V} (r : DV K G ψ d v) {xs : List D} (e : rdlD S d = some xs) : ∃ p vs, v = .ref p ∧ SqL K H p vs ∧ vs.length ≤ sizeLine ∧ DVs K G ψ xs vs := by
  cases r with
  | lst h z r => cases e; exact ⟨_, _, rfl, SqL.of (R.sub _ _ h), z, r⟩
  | @scr ns a h z => cases e; exact ⟨_, _, rfl, R.sub.seq h, by rw [List.length_map]; exact z, DVs.ints ns⟩
  | @ref n a h =>
    obtain ⟨p, vs, e1, h1, z1, t1⟩ := lstD_ok R (.ref h) (xs := xs) (d := .ref n) e
    exact ⟨p, vs, e1, SqL.of h1, z1, t1⟩
  | _ => cases e
/-- a new tuple, a new list that stays as it is -/
theorem new_tup (R : Rep K mg G ψ S H) {p : Addr} {ds : List D} {vs : List V} (hp : H p = none) (r : DVs K G ψ ds vs) (z : vs.length ≤ sizeLine) :
    Ext G ψ H (upd G p (.tup vs)) ψ (upd H p (.tup vs)) ∧ Rep K mg (upd G p (.tup vs)) ψ S (upd H p (.tup vs)) ∧ DV K (upd G p (.tup vs)) ψ (.tup ds) (.ref p) :=
  have x := Ext.lay (o := .tup vs) R hp
  ⟨x, R.lay hp, .tup (SqT.of upd_same) z (x.dvs r)⟩
theorem new_lst (R : Rep K mg G ψ S H) {p : Addr} {ds : List D} {vs : List V} (hp : H p = none) (r : DVs K G ψ ds vs) (z : vs.length ≤ sizeLine) :
    Ext G ψ H (upd G p (.lst vs)) ψ (upd H p (.lst vs)) ∧ Rep K mg (upd G p (.lst vs)) ψ S (upd H p (.lst vs)) ∧ DV K (upd G p (.lst vs)) ψ (.lst ds) (.ref p) :=
  have x := Ext.lay (o := .lst vs) R hp
  ⟨x, R.lay hp, .lst upd_same z (x.dvs r)⟩
theorem DVs.nil_iff {ds : List D} {vs : List V} (r : DVs K G ψ ds vs) : vs = [] ↔ ds = [] := by cases r <;> simp
theorem DVs.rep {ds : List D} {vs : List V} (r : DVs K G ψ ds vs) : ∀ n : Nat, DVs K G ψ (List.replicate n ds).flatten (List.replicate n vs).flatten
  | 0 => .nil
  | n + 1 => by rw [List.replicate_succ, List.replicate_succ, List.flatten_cons, List.flatten_cons]; exact r.app (DVs.rep r n)
theorem rep_len {α : Type} (xs : List α) : ∀ n : Nat, (List.replicate n xs).flatten.length = xs.length * n
  | 0 => rfl
  | n + 1 => by rw [List.replicate_succ, List.flatten_cons, List.length_append, rep_len xs n, Nat.mul_succ, Nat.add_comm]
end

/-! ### operators -/
def addD : F2 := fun S x y => match x, y with
  | .int i, .int j => some (.int (i + j))
  | .int i, .bl k => some (.int (i + b2i k))
  | .str a, .str b => if a.length + b.length ≤ sizeLine then some (.str (a ++ b)) else none
  | .tup xs, .tup ys => if xs.length + ys.length ≤ sizeLine then some (.tup (xs ++ ys)) else none
  | x, y => (lstD S x).bind fun xs => (lstD S y).bind fun ys => if xs.length + ys.length ≤ sizeLine then some (.lst (xs ++ ys)) else none
section
variable {X : Cx}
theorem od_addL {pins : List (Addr × Obj)} {s : Shared} {σ : St} {H : Hp} {x y : V} {v u : Value} {Q : VK} (I : Inv X pins σ H s) (rx : RelV x v) (ry : RelV y u) {G : Hp} {ψ : List Addr} {S : Sto} {d1 d2 d : D} (R : Rep X.K X.mg G ψ S H) (r1 : DV X.K G ψ d1 x) (r2 : DV X.K G ψ d2 y)
    (e : ((lstD S d1).bind fun xs => (lstD S d2).bind fun ys => if xs.length + ys.length ≤ sizeLine then some (D.lst (xs ++ ys)) else none) = some d)
    (k : ∀ G' H' v, Ext G ψ H G' ψ H' → Rep X.K X.mg G' ψ S H' → DV X.K G' ψ d v → Q v H') : wpAny (model X.prog X.w) X.A (binaryOp .Add v u) (EP X pins σ Q) X.xe s := by
  cases q1 : lstD S d1 with
  | none => rw [q1] at e; cases e
  | some xs =>
    rw [q1, Option.bind_some] at e
    cases q2 : lstD S d2 with
    | none => rw [q2] at e; cases e
    | some ys =>
      rw [q2, Option.bind_some] at e
      split at e
      · rename_i hz
        cases e
        obtain ⟨p1, vs1, rfl, h1, z1, t1⟩ := lstD_ok R r1 q1
        obtain ⟨p2, vs2, rfl, h2, z2, t2⟩ := lstD_ok R r2 q2
        have hz' : vs1.length + vs2.length ≤ sizeLine := by rw [← t1.length, ← t2.length]; exact hz
        refine op_cat pins s σ H _ _ v u Q I rx ry ⟨p1, p2, vs1, vs2, rfl, rfl, h1, h2, hz', fun p hp => ?_⟩
        obtain ⟨x1, x2, x3⟩ := new_lst R hp (t1.app t2) (by rw [List.length_append]; exact hz')
        exact k _ _ _ x1 x2 x3
      · cases e
theorem od_add : OpD X (binaryOp .Add) addD := by
  rintro pins s σ H x y v u Q I rx ry ⟨G, ψ, S, d1, d2, d, R, r1, r2, e, k⟩
  have same : ∀ {d v}, DV X.K G ψ d v → (∀ G' H' v, Ext G ψ H G' ψ H' → Rep X.K X.mg G' ψ S H' → DV X.K G' ψ d v → Q v H') → Q v H := fun h k => k _ _ _ Ext.refl R h
  unfold addD at e
  split at e
  · cases r1; cases r2; cases e
    exact op_add pins s σ H _ _ v u Q I rx ry ⟨_, _, rfl, rfl, same (.int _) k⟩
  · cases r1; cases r2; cases e
    exact op_add_ib pins s σ H _ _ v u Q I rx ry ⟨_, _, rfl, rfl, same (.int _) k⟩
  · cases r1; cases r2
    split at e
    · rename_i hz
      cases e
      exact op_add_str pins s σ H _ _ v u Q I rx ry ⟨_, _, rfl, rfl, hz, same (.str _) k⟩
    · cases e
  · rename_i xs ys
    split at e
    · rename_i hz
      cases e
      cases r1 with
      | tup h1 z1 t1 =>
        cases r2 with
        | tup h2 z2 t2 =>
          rename_i vs1 a1 vs2 a2
          refine op_catA pins s σ H _ _ v u Q I rx ry ⟨a1, a2, vs1, vs2, rfl, rfl, Same.seqT R.sub h1, Same.seqT R.sub h2, by rw [← t1.length, ← t2.length]; exact hz, fun e1 => ?_, fun e1 e2 => ?_, fun e1 e2 p hp => ?_⟩
          · refine same (.tup h2 z2 ?_) k
            have := t1.nil_iff.mp e1
            subst this
            exact t2
          · refine same (.tup h1 z1 ?_) k
            have := t2.nil_iff.mp e2
            subst this
            rw [List.append_nil]; exact t1
          · obtain ⟨x1, x2, x3⟩ := new_tup R hp (t1.app t2) (by rw [List.length_append, ← t1.length, ← t2.length]; exact hz)
            exact k _ _ _ x1 x2 x3
    · cases e
  · exact od_addL I rx ry R r1 r2 e k
def int2 (f : Int → Int → D) : F2 := fun _ x y => match x, y with | .int i, .int j => some (f i j) | _, _ => none
theorem od_int2 {g : Value → Value → Sem Value} {f : Int → Int → D} {fv : Int → Int → V} (h : OpR X g (rI0 fv)) (hf : ∀ K G ψ i j, DV K G ψ (f i j) (fv i j)) : OpD X g (int2 f) := by
  rintro pins s σ H x y v u Q I rx ry ⟨G, ψ, S, d1, d2, d, R, r1, r2, e, k⟩
  unfold int2 at e
  split at e
  · cases r1; cases r2; cases e
    exact h pins s σ H _ _ v u Q I rx ry ⟨_, _, rfl, rfl, k _ _ _ Ext.refl R (hf _ _ _ _ _)⟩
  · cases e
open Classical in
noncomputable def int2c (C : Int → Int → Prop) (f : Int → Int → D) : F2 := fun _ x y => match x, y with | .int i, .int j => if C i j then some (f i j) else none | _, _ => none
theorem od_int2c {g : Value → Value → Sem Value} {C : Int → Int → Prop} {f : Int → Int → D} {fv : Int → Int → V} (h : OpR X g (rI C fv)) (hf : ∀ K G ψ i j, DV K G ψ (f i j) (fv i j)) : OpD X g (int2c C f) := by
  rintro pins s σ H x y v u Q I rx ry ⟨G, ψ, S, d1, d2, d, R, r1, r2, e, k⟩
  unfold int2c at e
  split at e
  · cases r1; cases r2
    split at e
    · rename_i hc
      cases e
      exact h pins s σ H _ _ v u Q I rx ry ⟨_, _, rfl, rfl, hc, k _ _ _ Ext.refl R (hf _ _ _ _ _)⟩
    · cases e
  · cases e
abbrev subD : F2 := int2 fun i j => .int (i - j)
theorem od_sub : OpD X (binaryOp .Sub) subD := od_int2 op_sub fun _ _ _ _ _ => .int _
noncomputable abbrev fdivD : F2 := int2c CDivW fun i j => .int (i / j)
theorem od_fdiv : OpD X (binaryOp .FloorDiv) fdivD := od_int2c op_fdivW fun _ _ _ _ _ => .int _
noncomputable abbrev modD : F2 := int2c (fun _ j => 0 < j) fun i j => .int (i % j)
theorem od_mod : OpD X (binaryOp .Mod) modD := od_int2c op_mod fun _ _ _ _ _ => .int _
noncomputable abbrev powD : F2 := int2c CPow fun i j => .int (i ^ j.toNat)
theorem od_pow : OpD X (binaryOp .Pow) powD := od_int2c op_pow fun _ _ _ _ _ => .int _
def MulOk (i j : Int) : Prop := CMul i j ∨ CMulW i j
theorem op_mulO : OpR X (binaryOp .Mult) (rI MulOk fun i j => .int (i * j)) := by
  rintro pins s σ H x y v u Q I rx ry ⟨i, j, rfl, rfl, hc, q⟩
  rcases hc with hc | hc
  · exact op_mul pins s σ H _ _ v u Q I rx ry ⟨i, j, rfl, rfl, hc, q⟩
  · exact op_mulW pins s σ H _ _ v u Q I rx ry ⟨i, j, rfl, rfl, hc, q⟩
noncomputable def mulD : F2 := fun S x y => match x, y with
  | .tup xs, .int k => if xs ≠ [] ∧ 2 ≤ k ∧ k ≤ 1000 ∧ xs.length ≤ 1000 then some (.tup (List.replicate k.toNat xs).flatten) else none
  | .int i, .int j => int2c MulOk (fun i j => .int (i * j)) S (.int i) (.int j)
  | x, .int k => (lstD S x).bind fun xs => if -(2 ^ 63) ≤ k ∧ k < 2 ^ 63 ∧ xs.length * k.toNat ≤ sizeLine then some (.lst (List.replicate k.toNat xs).flatten) else none
  | _, _ => none
theorem od_mul : OpD X (binaryOp .Mult) mulD := by
  rintro pins s σ H x y v u Q I rx ry ⟨G, ψ, S, d1, d2, d, R, r1, r2, e, k⟩
  unfold mulD at e
  split at e
  · cases r2
    split at e
    · rename_i xs kk hc
      obtain ⟨h0, h1, h2, h3⟩ := hc
      cases e
      cases r1 with
      | tup h z t =>
        have hs : sizeLine = 16777216 := sizeLine_eq
        refine op_repT pins s σ H _ _ v u Q I rx ry ⟨_, _, _, rfl, rfl, Same.seqT R.sub h, fun q => h0 (t.nil_iff.mp q), h1, h2, by rw [← t.length]; exact h3, fun p hp => ?_⟩
        obtain ⟨x1, x2, x3⟩ := new_tup R hp (t.rep kk.toNat) (by
          rw [rep_len, ← t.length]
          have : xs.length * kk.toNat ≤ 1000 * 1000 := Nat.mul_le_mul h3 (by omega)
          omega)
        exact k _ _ _ x1 x2 x3
    · cases e
  · exact od_int2c op_mulO (fun _ _ _ _ _ => .int _) pins s σ H x y v u Q I rx ry ⟨G, ψ, S, _, _, d, R, r1, r2, e, k⟩
  · cases r2
    rename_i kk _ _
    cases q1 : lstD S d1 with
    | none => rw [q1] at e; cases e
    | some xs =>
      rw [q1, Option.bind_some] at e
      split at e
      · rename_i hc
        obtain ⟨h1, h2, h3⟩ := hc
        cases e
        obtain ⟨p1, vs1, rfl, hh, z1, t1⟩ := lstD_ok R r1 q1
        refine op_rep pins s σ H _ _ v u Q I rx ry ⟨p1, _, vs1, rfl, rfl, hh, h1, h2, by rw [← t1.length]; exact h3, fun p hp => ?_⟩
        obtain ⟨x1, x2, x3⟩ := new_lst R hp (t1.rep _) (by rw [rep_len, ← t1.length]; exact h3)
        exact k _ _ _ x1 x2 x3
      · cases e
  · cases e
/-! ints compared -/
abbrev ltD : F2 := int2 fun i j => .bl (decide (i < j))
abbrev leD : F2 := int2 fun i j => .bl (decide (i ≤ j))
abbrev gtD : F2 := int2 fun i j => .bl (decide (j < i))
abbrev geD : F2 := int2 fun i j => .bl (decide (j ≤ i))
theorem od_lt : OpD X (compareOp .Lt) ltD := od_int2 op_lt fun _ _ _ _ _ => .bl _
theorem od_le : OpD X (compareOp .LtE) leD := od_int2 op_le fun _ _ _ _ _ => .bl _
theorem od_gt : OpD X (compareOp .Gt) gtD := od_int2 op_gt fun _ _ _ _ _ => .bl _
theorem od_ge : OpD X (compareOp .GtE) geD := od_int2 op_ge fun _ _ _ _ _ => .bl _
/-! in place -/
abbrev iaddD : F2 := int2 fun i j => .int (i + j)
theorem od_iadd : OpD X (inplaceOp .Add) iaddD := od_int2 iop_add fun _ _ _ _ _ => .int _
theorem od_isub : OpD X (inplaceOp .Sub) subD := od_int2 iop_sub fun _ _ _ _ _ => .int _
/-! is None -/
def isD : F2 := fun _ x y => match y with | .non => (match x with | .non => some (.bl true) | _ => some (.bl false)) | _ => none
def isnD : F2 := fun _ x y => match y with | .non => (match x with | .non => some (.bl false) | _ => some (.bl true)) | _ => none
theorem od_is : OpD X (compareOp .Is) isD := by
  rintro pins s σ H x y v u Q I rx ry ⟨G, ψ, S, d1, d2, d, R, r1, r2, e, k⟩
  unfold isD at e
  split at e
  · cases r2
    refine op_isN pins s σ H _ _ v u Q I rx ry ⟨rfl, k _ _ _ Ext.refl R ?_⟩
    cases r1 <;> cases e <;> exact .bl _
  · cases e
theorem od_isn : OpD X (compareOp .IsNot) isnD := by
  rintro pins s σ H x y v u Q I rx ry ⟨G, ψ, S, d1, d2, d, R, r1, r2, e, k⟩
  unfold isnD at e
  split at e
  · cases r2
    refine op_notN pins s σ H _ _ v u Q I rx ry ⟨rfl, k _ _ _ Ext.refl R ?_⟩
    cases r1 <;> cases e <;> exact .bl _
  · cases e
end

/-! ### data as PyData -/
mutual
def toP0 : D → Option PyData
  | .non => some .none
  | .bl b => some (.bool b)
  | .int i => some (.int i)
  | .str x => some (.str x)
  | .tup xs => (toP0s xs).map .tuple
  | .lst xs => (toP0s xs).map .list
  | .scr ns => some (.list (ns.map .int))
  | .dct _ => none
  | .ref _ => none
def toP0s : List D → Option (List PyData)
  | [] => some []
  | d :: ds => (toP0 d).bind fun p => (toP0s ds).map fun ps => p :: ps
end
mutual
def toP (S : Sto) : D → Option PyData
  | .non => some .none
  | .bl b => some (.bool b)
  | .int i => some (.int i)
  | .str x => some (.str x)
  | .tup xs => (toPs S xs).map .tuple
  | .lst xs => (toPs S xs).map .list
  | .scr ns => some (.list (ns.map .int))
  | .dct _ => none
  | .ref n => match S[n]? with | some (.lst xs) => (toP0s xs).map .list | _ => none
def toPs (S : Sto) : List D → Option (List PyData)
  | [] => some []
  | d :: ds => (toP S d).bind fun p => (toPs S ds).map fun ps => p :: ps
end
section
variable {K : PySem.W.Frag} {mg : Str → Option Value} {G : Hp} {ψ : List Addr} {S : Sto} {H : Hp}
theorem dpAll_ints : ∀ ns : List Int, DpAll K H (ns.map V.int) (ns.map PyData.int)
  | [] => .nil
  | n :: ns => .cons (.int n) (dpAll_ints ns)
mutual
theorem toP0_ok (R : Rep K mg G ψ S H) : ∀ {d : D} {v : V} {p : PyData}, DV K G ψ d v → toP0 d = some p → Dp K H v p
  | _, _, _, .non, e => by cases e; exact .non
  | _, _, _, .bl b, e => by cases e; exact .bl b
  | _, _, _, .int i, e => by cases e; exact .int i
  | _, _, _, .str x, e => by cases e; exact .str x
  | _, _, _, .tup (ds := ds) h z r, e => by
    unfold toP0 at e
    cases q : toP0s ds with
    | none => rw [q] at e; cases e
    | some ps => rw [q] at e; cases e; exact .tup (Same.seqT R.sub h) (toP0s_ok R r q)
  | _, _, _, .lst (ds := ds) h z r, e => by
    unfold toP0 at e
    cases q : toP0s ds with
    | none => rw [q] at e; cases e
    | some ps => rw [q] at e; cases e; exact .lst (SqL.of (R.sub _ _ h)) (toP0s_ok R r q)
  | _, _, _, .scr (ns := ns) h z, e => by cases e; exact .lst (R.sub.seq h) (dpAll_ints ns)
  | _, _, _, .dct _ _ _, e => by cases e
  | _, _, _, .ref _, e => by cases e
theorem toP0s_ok (R : Rep K mg G ψ S H) : ∀ {ds : List D} {vs : List V} {ps : List PyData}, DVs K G ψ ds vs → toP0s ds = some ps → DpAll K H vs ps
  | _, _, _, .nil, e => by cases e; exact .nil
  | _, _, _, .cons (d := d) (ds := ds) r t, e => by
    unfold toP0s at e
    cases q : toP0 d with
    | none => rw [q] at e; cases e
    | some p =>
      rw [q, Option.bind_some] at e
      cases q2 : toP0s ds with
      | none => rw [q2] at e; cases e
      | some ps => rw [q2] at e; cases e; exact .cons (toP0_ok R r q) (toP0s_ok R t q2)
end
mutual
theorem toP_ok (R : Rep K mg G ψ S H) : ∀ {d : D} {v : V} {p : PyData}, DV K G ψ d v → toP S d = some p → Dp K H v p
  | _, _, _, .non, e => by cases e; exact .non
  | _, _, _, .bl b, e => by cases e; exact .bl b
  | _, _, _, .int i, e => by cases e; exact .int i
  | _, _, _, .str x, e => by cases e; exact .str x
  | _, _, _, .tup (ds := ds) h z r, e => by
    unfold toP at e
    cases q : toPs S ds with
    | none => rw [q] at e; cases e
    | some ps => rw [q] at e; cases e; exact .tup (Same.seqT R.sub h) (toPs_ok R r q)
  | _, _, _, .lst (ds := ds) h z r, e => by
    unfold toP at e
    cases q : toPs S ds with
    | none => rw [q] at e; cases e
    | some ps => rw [q] at e; cases e; exact .lst (SqL.of (R.sub _ _ h)) (toPs_ok R r q)
  | _, _, _, .scr (ns := ns) h z, e => by cases e; exact .lst (R.sub.seq h) (dpAll_ints ns)
  | _, _, _, .dct _ _ _, e => by cases e
  | _, _, _, .ref (n := n) h, e => by
    unfold toP at e
    cases q : S[n]? with
    | none => rw [q] at e; cases e
    | some o =>
      rw [q] at e
      cases o with
      | lst xs =>
        dsimp only at e
        obtain ⟨a', ha, _, vs, hv, z, r⟩ := R.sto n _ q
        rw [h] at ha; cases ha
        cases q2 : toP0s xs with
        | none => rw [q2] at e; cases e
        | some ps => rw [q2] at e; cases e; exact .lst (SqL.of hv) (toP0s_ok R r q2)
      | ins c fs => cases e
      | dct c => cases e
theorem toPs_ok (R : Rep K mg G ψ S H) : ∀ {ds : List D} {vs : List V} {ps : List PyData}, DVs K G ψ ds vs → toPs S ds = some ps → DpAll K H vs ps
  | _, _, _, .nil, e => by cases e; exact .nil
  | _, _, _, .cons (d := d) (ds := ds) r t, e => by
    unfold toPs at e
    cases q : toP S d with
    | none => rw [q] at e; cases e
    | some p =>
      rw [q, Option.bind_some] at e
      cases q2 : toPs S ds with
      | none => rw [q2] at e; cases e
      | some ps => rw [q2] at e; cases e; exact .cons (toP_ok R r q) (toPs_ok R t q2)
end
end
def eqP (f : Bool → Bool) : F2 := fun S x y => (toP S x).bind fun p => (toP S y).bind fun q => if SeqAt.shaped p = true ∧ SeqAt.shaped q = true then some (.bl (f (PyData.eqv p q))) else none
abbrev eqD : F2 := eqP id
abbrev neD : F2 := eqP not
section
variable {X : Cx}
theorem od_eqP {g : Value → Value → Sem Value} {f : Bool → Bool} (h : OpR X g fun x y H Q => ∃ d e, Dp X.K H x d ∧ Dp X.K H y e ∧ SeqAt.shaped d = true ∧ SeqAt.shaped e = true ∧ Q (.bl (f (PyData.eqv d e))) H) : OpD X g (eqP f) := by
  rintro pins s σ H x y v u Q I rx ry ⟨G, ψ, S, d1, d2, d, R, r1, r2, e, k⟩
  unfold eqP at e
  cases q1 : toP S d1 with
  | none => rw [q1] at e; cases e
  | some p =>
    rw [q1, Option.bind_some] at e
    cases q2 : toP S d2 with
    | none => rw [q2] at e; cases e
    | some q =>
      rw [q2, Option.bind_some] at e
      split at e
      · rename_i hc
        cases e
        exact h pins s σ H _ _ v u Q I rx ry ⟨p, q, toP_ok R r1 q1, toP_ok R r2 q2, hc.1, hc.2, k _ _ _ Ext.refl R (.bl _)⟩
      · cases e
theorem od_eq (hu : X.A.units + 64 < cLine) : OpD X (compareOp .Eq) eqD := od_eqP (op_eqD hu)
theorem od_ne (hu : X.A.units + 64 < cLine) : OpD X (compareOp .NotEq) neD := od_eqP (op_neD hu)
/-! x in ys, flat things -/
def flV : D → Option V
  | .non => some .non
  | .bl b => some (.bl b)
  | .int i => some (.int i)
  | .str x => some (.str x)
  | _ => none
def flVs : List D → Option (List V)
  | [] => some []
  | d :: ds => (flV d).bind fun v => (flVs ds).map fun vs => v :: vs
theorem flV_ok {K : PySem.W.Frag} {G : Hp} {ψ : List Addr} {d : D} {v u : V} (r : DV K G ψ d v) (e : flV d = some u) : v = u ∧ flatV v = true := by
  cases r <;> cases e <;> exact ⟨rfl, rfl⟩
theorem flVs_ok {K : PySem.W.Frag} {G : Hp} {ψ : List Addr} : ∀ {ds : List D} {vs us : List V}, DVs K G ψ ds vs → flVs ds = some us → vs = us ∧ vs.all flatV = true
  | _, _, _, .nil, e => by cases e; exact ⟨rfl, rfl⟩
  | _, _, _, .cons (d := d) (ds := ds) r t, e => by
    unfold flVs at e
    cases q : flV d with
    | none => rw [q] at e; cases e
    | some p =>
      rw [q, Option.bind_some] at e
      cases q2 : flVs ds with
      | none => rw [q2] at e; cases e
      | some ps =>
        rw [q2] at e
        cases e
        obtain ⟨e1, e2⟩ := flV_ok r q
        obtain ⟨e3, e4⟩ := flVs_ok t q2
        exact ⟨by rw [e1, e3], by rw [List.all_cons, e2, e4]; rfl⟩
def inD (neg : Bool) : F2 := fun S x y => (flV x).bind fun a => (seqD S y).bind fun ys => (flVs ys).bind fun vs => some (.bl (if neg then !inV a vs else inV a vs))
theorem od_inB {neg : Bool} {g : Value → Value → Sem Value} (h : OpR X g (rIn X.K neg)) : OpD X g (inD neg) := by
  rintro pins s σ H x y v u Q I rx ry ⟨G, ψ, S, d1, d2, d, R, r1, r2, e, k⟩
  unfold inD at e
  cases q1 : flV d1 with
  | none => rw [q1] at e; cases e
  | some a =>
    rw [q1, Option.bind_some] at e
    cases q2 : seqD S d2 with
    | none => rw [q2] at e; cases e
    | some ys =>
      rw [q2, Option.bind_some] at e
      cases q3 : flVs ys with
      | none => rw [q3] at e; cases e
      | some vs =>
        rw [q3, Option.bind_some] at e
        cases e
        obtain ⟨p, us, rfl, hq, z, t⟩ := seqD_ok R r2 q2
        obtain ⟨e1, f1⟩ := flV_ok r1 q1
        obtain ⟨e2, f2⟩ := flVs_ok t q3
        subst e1
        subst e2
        exact h pins s σ H _ _ v u Q I rx ry ⟨p, us, rfl, hq.symm, f1, f2, k _ _ _ Ext.refl R (.bl _)⟩
theorem od_in : OpD X (compareOp .In) (inD false) := od_inB op_in_seq
theorem od_nin : OpD X (compareOp .NotIn) (inD true) := od_inB op_notIn_seq

/-! ### subscripts, slices -/
def ixD : F2 := fun S x y => match x, y with
  | .str z, .int i => if z.length ≤ sizeLine then (atI z.cps.toList i).map fun c => .str ⟨#[c]⟩ else none
  | x, .int i => (seqD S x).bind fun xs => atI xs i
  | _, _ => none
theorem DVs.atI {K : PySem.W.Frag} {G : Hp} {ψ : List Addr} {ds : List D} {vs : List V} {i : Int} {d : D} (r : DVs K G ψ ds vs) (e : L2.atI ds i = some d) : ∃ v, L2.atI vs i = some v ∧ DV K G ψ d v := by
  unfold L2.atI at e ⊢
  rw [← r.length]
  cases q : ixN ds.length i with
  | none => rw [q] at e; cases e
  | some j => rw [q, Option.bind_some] at e; rw [Option.bind_some]; exact r.get e
theorem ixd_ok : IxR X fun x y H Q => ∃ G ψ S d1 d2 d, Rep X.K X.mg G ψ S H ∧ DV X.K G ψ d1 x ∧ DV X.K G ψ d2 y ∧ ixD S d1 d2 = some d ∧ ∀ G' H' v, Ext G ψ H G' ψ H' → Rep X.K X.mg G' ψ S H' → DV X.K G' ψ d v → Q v H' := by
  rintro value slice pins s σ H x y v u Q I rx ry ⟨G, ψ, S, d1, d2, d, R, r1, r2, e, k⟩ hs
  unfold ixD at e
  split at e
  · cases r1; cases r2
    split at e
    · rename_i z i hz
      cases q : L2.atI z.cps.toList i with
      | none => rw [q] at e; cases e
      | some c => rw [q] at e; cases e; exact ix_seq value slice pins s σ H _ _ v u Q I rx ry (.inr (.inr ⟨z, i, c, rfl, rfl, hz, q, k _ _ _ Ext.refl R (.str _)⟩)) hs
    · cases e
  · cases r2
    rename_i i _
    cases q : seqD S d1 with
    | none => rw [q] at e; cases e
    | some xs =>
      rw [q, Option.bind_some] at e
      obtain ⟨p, vs, rfl, hq, z, t⟩ := seqD_ok R r1 q
      obtain ⟨w, hw, dw⟩ := t.atI e
      rcases hq with hq | hq
      · exact ix_seq value slice pins s σ H _ _ v u Q I rx ry (.inr (.inl ⟨p, vs, _, w, rfl, rfl, hq, hw, k _ _ _ Ext.refl R dw⟩)) hs
      · exact ix_seq value slice pins s σ H _ _ v u Q I rx ry (.inl ⟨p, vs, _, w, rfl, rfl, hq, hw, k _ _ _ Ext.refl R dw⟩) hs
  · cases e
variable {W : WX} {a b : Expr} {ma mb : Nv → M D} {pos p2 : Pos}
theorem de_ix (ha : DE X W a ma) (hb : DE X W b mb) (hs : PlainIx b := by intro _ _; rfl) : DE X W (.Subscript a b pos) (eO ixD ma mb) := by
  refine ⟨PEimp (pe_ix ixd_ok ha.pe hb.pe hs) fun σ H Q h => two h fun G ψ S H d1 d2 d x y R r1 r2 e q => ?_⟩
  exact ⟨G, ψ, S, d1, d2, d, R, r1, r2, e, fun G' H' v X' R' dv => q G' H' X' R' v dv⟩
structure DP (X : Cx) (W : WX) (e : Option Expr) (m : Nv → M (Option Int)) : Prop where po : PO X e fun σ H Q => tG X.K X.mg W m σ H fun o _ _ _ H' => Q o H'
theorem POimp {X : Cx} {e : Option Expr} {t t' : TO} (h : PO X e t) (w : ∀ σ H Q, t' σ H Q → t σ H Q) : PO X e t' := ⟨fun pins s σ H Q I q => h.run pins s σ H Q I (w σ H Q q)⟩
def pNo : Nv → M (Option Int) := fun _ => ret none
def pSo (m : Nv → M D) : Nv → M (Option Int) := fun ρ => bnd (m ρ) fun d => match d with | .int i => ret (some i) | _ => bad
theorem dp_none : DP X W none pNo := ⟨POimp po_none (by
  rintro σ H Q ⟨G, ψ, S, ρ, R, E, F⟩
  exact F.done Ext.refl R)⟩
theorem dp_some (h : DE X W a ma) : DP X W (some a) (pSo ma) := ⟨POimp (po_some h.pe) (by
  rintro σ H Q ⟨G, ψ, S, ρ, R, E, F⟩
  refine ⟨G, ψ, S, ρ, R, E, F.bnd fun d S1 G1 ψ1 H1 X1 R1 F1 v dv => ?_⟩
  cases dv with
  | int i => exact ⟨i, rfl, F1.done Ext.refl R1⟩
  | _ => exact F1.elim)⟩
def cutD (xs : List D) (lo hi : Option Int) : List D := (xs.drop (HT.sIx xs.length 0 lo)).take (HT.sIx xs.length xs.length hi - HT.sIx xs.length 0 lo)
theorem DVs.cut {K : PySem.W.Frag} {G : Hp} {ψ : List Addr} {ds : List D} {vs : List V} (r : DVs K G ψ ds vs) (lo hi : Option Int) : DVs K G ψ (cutD ds lo hi) (cutV vs lo hi) := by
  unfold cutD cutV
  rw [← r.length]
  exact (r.drop _).take _
theorem cutD_len (xs : List D) (lo hi : Option Int) : (cutD xs lo hi).length ≤ xs.length := by
  unfold cutD
  rw [List.length_take, List.length_drop]
  omega
def slD (S : Sto) (x : D) (lo hi : Option Int) : Option D := match x with
  | .str z => if z.length ≤ sizeLine then some (.str (cutS z lo hi)) else none
  | .tup xs => some (.tup (cutD xs lo hi))
  | x => (rdlD S x).map fun xs => .lst (cutD xs lo hi)
theorem cut_whole {α : Type} (xs : List α) {m n : Nat} (h1 : m = 0) (h2 : n = xs.length) : (xs.drop m).take (n - m) = xs := by
  subst h1; subst h2; simp
theorem sld_ok : SlR X fun x lo hi H Q => ∃ G ψ S d1 d, Rep X.K X.mg G ψ S H ∧ DV X.K G ψ d1 x ∧ slD S d1 lo hi = some d ∧ ∀ G' H' v, Ext G ψ H G' ψ H' → Rep X.K X.mg G' ψ S H' → DV X.K G' ψ d v → Q v H' := by
  rintro pins s σ H x v vl vu lo hi sl Q I rx hs pl pu ⟨G, ψ, S, d1, d, R, r1, e, k⟩
  unfold slD at e
  split at e
  · cases r1
    split at e
    · rename_i z hz
      cases e
      exact sl_str pins s σ H _ v vl vu lo hi sl Q I rx hs pl pu ⟨z, rfl, hz, k _ _ _ Ext.refl R (.str _)⟩
    · cases e
  · cases e
    cases r1 with
    | @tup ds vs a h z t =>
      refine sl_tupA pins s σ H _ v vl vu lo hi sl Q I rx hs pl pu ⟨a, vs, rfl, Same.seqT R.sub h, fun e => ?_, fun e p hp => ?_⟩
      · refine k _ _ _ Ext.refl R (.tup h z ?_)
        unfold cutD
        rw [← t.length] at e
        rw [cut_whole _ e.1 e.2]
        exact t
      · have hl : (cutV vs lo hi).length ≤ sizeLine := by rw [← (t.cut lo hi).length]; exact Nat.le_trans (cutD_len _ _ _) (by rw [t.length]; exact z)
        obtain ⟨x1, x2, x3⟩ := new_tup R hp (t.cut lo hi) hl
        exact k _ _ _ x1 x2 x3
  · cases q : rdlD S d1 with
    | none => rw [q] at e; cases e
    | some xs =>
      rw [q] at e
      cases e
      obtain ⟨p, vs, rfl, hq', z, t⟩ := rdlD_ok R r1 q
      refine sl_list pins s σ H _ v vl vu lo hi sl Q I rx hs pl pu ⟨p, vs, rfl, hq', fun p hp => ?_⟩
      have hl : (cutV vs lo hi).length ≤ sizeLine := by rw [← (t.cut lo hi).length]; exact Nat.le_trans (cutD_len _ _ _) (by rw [t.length]; exact z)
      obtain ⟨x1, x2, x3⟩ := new_lst R hp (t.cut lo hi) hl
      exact k _ _ _ x1 x2 x3
end
end Nt

namespace Nt
open PySem PySem.Spec L2
open PyProof.Rows hiding St

section
variable {K : PySem.W.Frag} {mg : Str → Option Value} {α : Type} {G : Hp} {ψ : List Addr} {S : Sto} {H : Hp} {W : XD}
/-- a question to the store answered at once -/
theorem Fin.askB {β : Type} {f : Sto → Option α} {k : α → M β} {q : β → Sto → Hp → List Addr → Hp → Prop} (h : Fin K mg G ψ H W (Nt.bnd (Nt.ask f) k S) q) : ∃ a, f S = some a ∧ Fin K mg G ψ H W (k a S) q := by
  unfold Nt.bnd Nt.ask at h
  cases e : f S with
  | none => rw [e] at h; exact h.elim
  | some a => rw [e] at h; exact ⟨a, rfl, h⟩
end
section
variable {X : Cx} {W : WX} {a b e : Expr} {ma mb me : Nv → M D} {pos p2 : Pos} {es : List Expr} {mr : Nv → M (List D)}
/-! ### slices -/
def eSl (ma : Nv → M D) (lo hi : Nv → M (Option Int)) : Nv → M D := fun ρ => bnd (ma ρ) fun x => bnd (lo ρ) fun l => bnd (hi ρ) fun h => ask fun S => slD S x l h
theorem de_sl {lo hi : Option Expr} {ml mh : Nv → M (Option Int)} (ha : DE X W a ma) (hl : DP X W lo ml) (hh : DP X W hi mh) : DE X W (.Subscript a (.Slice lo hi none p2) pos) (eSl ma ml mh) := by
  refine ⟨PEimp (pe_slice sld_ok ha.pe hl.po hh.po) ?_⟩
  rintro σ H Q ⟨G, ψ, S, ρ, R, E, F⟩
  refine ⟨G, ψ, S, ρ, R, E, F.bnd fun x S1 G1 ψ1 H1 X1 R1 F1 v dv => ⟨G1, ψ1, S1, ρ, R1, E.up X1, F1.bnd fun l S2 G2 ψ2 H2 X2 R2 F2 => ⟨G2, ψ2, S2, ρ, R2, (E.up X1).up X2, F2.bnd fun h S3 G3 ψ3 H3 X3 R3 F3 => ?_⟩⟩⟩
  obtain ⟨d, e, F4⟩ := F3.ask
  exact ⟨G3, ψ3, S3, x, d, R3, X3.dv (X2.dv dv), e, fun G' H' v X' R' dv => F4.done X' R' v dv⟩

/-! ### built-ins by values -/
abbrev FB := Sto → List D → Option D
def CallD (X : Cx) (f : Value) (g : FB) : Prop := CallR X f fun xs H Q => ∃ G ψ S ds d, Rep X.K X.mg G ψ S H ∧ DVs X.K G ψ ds xs ∧ g S ds = some d ∧
  ∀ G' H' v, Ext G ψ H G' ψ H' → Rep X.K X.mg G' ψ S H' → DV X.K G' ψ d v → Q v H'
def eB (g : FB) (ma : Nv → M (List D)) : Nv → M D := fun ρ => bnd (ma ρ) fun ds => ask fun S => g S ds
theorem eB_read {g : FB} {σ : St} {H : Hp} {Q : VK} : tE X.K X.mg W (eB g mr) σ H Q → tAr X.K X.mg W mr σ H fun xs H1 => ∃ G ψ S ds d, Rep X.K X.mg G ψ S H1 ∧ DVs X.K G ψ ds xs ∧ g S ds = some d ∧
    ∀ G' H' v, Ext G ψ H1 G' ψ H' → Rep X.K X.mg G' ψ S H' → DV X.K G' ψ d v → Q v H' := by
  rintro ⟨G, ψ, S, ρ, R, E, F⟩
  refine ⟨G, ψ, S, ρ, R, E, F.bnd fun ds S1 G1 ψ1 H1 X1 R1 F1 vs dvs => ?_⟩
  obtain ⟨d, e, F2⟩ := F1.ask
  exact ⟨G1, ψ1, S1, ds, d, R1, dvs, e, fun G' H' v X' R' dv => F2.done X' R' v dv⟩
theorem de_bi {id : String} {g : FB} {x : Str} {p : Pos} (hc : CallD X (.builtin id) g) (hm : X.mg x = none) (ha : DA X W (a :: es) mr) (hg : Gl X x := by rfl) (hv : bootBuiltins x = some (.builtin id) := by decide +kernel) (hn : x ≠ "__name__" := by decide) (hdb : (x == ("__debug__" : Str)) = false := by decide)
    (he : starEach (a :: es) X.env = (false, eval a X.env) :: starEach es X.env := by rfl) (hpl : (backTo pos (starEach es X.env)).any (·.1) = false := by rfl) : DE X W (.Call (.Name x p) (a :: es) [] pos) (eB g mr) :=
  ⟨PEimp (pe_callB hc hg hm hv ha.pa hn hdb he hpl) fun _ _ _ q => eB_read q⟩
theorem de_ty {T : String} {g : FB} {x : Str} {p : Pos} (hc : CallD X (.type T) g) (hm : X.mg x = none) (ha : DA X W (a :: es) mr) (hg : Gl X x := by rfl) (hv : bootBuiltins x = some (.type T) := by decide +kernel) (hn : x ≠ "__name__" := by decide) (hdb : (x == ("__debug__" : Str)) = false := by decide)
    (he : starEach (a :: es) X.env = (false, eval a X.env) :: starEach es X.env := by rfl) (hpl : (backTo pos (starEach es X.env)).any (·.1) = false := by rfl) : DE X W (.Call (.Name x p) (a :: es) [] pos) (eB g mr) :=
  ⟨PEimp (pe_callTy hc hg hm hv ha.pa hn hdb he hpl) fun _ _ _ q => eB_read q⟩
def lenD : FB := fun S ds => match ds with
  | [.str z] => if z.length ≤ sizeLine then some (.int z.length) else none
  | [d] => (seqD S d).map fun xs => .int xs.length
  | _ => none
theorem DVs.one {K : PySem.W.Frag} {G : Hp} {ψ : List Addr} {d : D} {vs : List V} (r : DVs K G ψ [d] vs) : ∃ v, vs = [v] ∧ DV K G ψ d v := by
  cases r with
  | cons r t => cases t; exact ⟨_, rfl, r⟩
theorem DVs.two {K : PySem.W.Frag} {G : Hp} {ψ : List Addr} {d e : D} {vs : List V} (r : DVs K G ψ [d, e] vs) : ∃ v u, vs = [v, u] ∧ DV K G ψ d v ∧ DV K G ψ e u := by
  cases r with
  | cons r t =>
    obtain ⟨u, rfl, h⟩ := t.one
    exact ⟨_, u, rfl, r, h⟩
theorem cd_len : CallD X (.builtin "len") lenD := by
  rintro pins s σ H xs us Q I rv ⟨G, ψ, S, ds, d, R, r, e, k⟩
  unfold lenD at e
  split at e
  · obtain ⟨v, rfl, r1⟩ := r.one
    cases r1
    split at e
    · rename_i hz
      cases e
      exact call_len_str pins s σ H _ us Q I rv ⟨_, rfl, hz, k _ _ _ Ext.refl R (.int _)⟩
    · cases e
  · obtain ⟨v, rfl, r1⟩ := r.one
    rename_i d0 _
    cases q : seqD S d0 with
    | none => rw [q] at e; cases e
    | some ys =>
      rw [q] at e
      cases e
      obtain ⟨p, vs, rfl, hq, z, t⟩ := seqD_ok R r1 q
      exact call_len_seq pins s σ H _ us Q I rv ⟨p, vs, rfl, hq.symm, k _ _ _ Ext.refl R (by rw [← t.length]; exact .int _)⟩
  · cases e
def tupleD : FB := fun S ds => match ds with
  | [.tup xs] => some (.tup xs)
  | [d] => (rdlD S d).map .tup
  | _ => none
theorem cd_tuple : CallD X (.type "tuple") tupleD := by
  rintro pins s σ H xs us Q I rv ⟨G, ψ, S, ds, d, R, r, e, k⟩
  unfold tupleD at e
  split at e
  · obtain ⟨v, rfl, r1⟩ := r.one
    cases e
    cases r1 with
    | tup h z t => exact call_tuple_of pins s σ H _ us Q I rv ⟨_, _, rfl, .inr ⟨Same.seqT R.sub h, k _ _ _ Ext.refl R (.tup h z t)⟩⟩
  · obtain ⟨v, rfl, r1⟩ := r.one
    rename_i d0 _
    cases q : rdlD S d0 with
    | none => rw [q] at e; cases e
    | some ys =>
      rw [q] at e
      cases e
      obtain ⟨p, vs, rfl, hq, z, t⟩ := rdlD_ok R r1 q
      refine call_tuple_of pins s σ H _ us Q I rv ⟨p, vs, rfl, .inl ⟨hq, fun l hl => ?_⟩⟩
      obtain ⟨x1, x2, x3⟩ := new_tup R hl t z
      exact k _ _ _ x1 x2 x3
  · cases e
/-! ints in a list -/
def intsD : List D → Option (List Int)
  | [] => some []
  | .int i :: ds => (intsD ds).map fun ns => i :: ns
  | _ => none
theorem intsD_ok {K : PySem.W.Frag} {G : Hp} {ψ : List Addr} : ∀ {ds : List D} {vs : List V} {ns : List Int}, DVs K G ψ ds vs → intsD ds = some ns → vs = ns.map V.int
  | _, _, _, .nil, e => by cases e; rfl
  | _, _, _, .cons (d := d) (ds := ds) r t, e => by
    cases r with
    | int i =>
      unfold intsD at e
      cases q : intsD ds with
      | none => rw [q] at e; cases e
      | some ms => rw [q] at e; cases e; rw [intsD_ok t q]; rfl
    | _ => cases e
def blsD : List D → Option (List Bool)
  | [] => some []
  | .bl i :: ds => (blsD ds).map fun ns => i :: ns
  | _ => none
theorem blsD_ok {K : PySem.W.Frag} {G : Hp} {ψ : List Addr} : ∀ {ds : List D} {vs : List V} {ns : List Bool}, DVs K G ψ ds vs → blsD ds = some ns → vs = ns.map V.bl
  | _, _, _, .nil, e => by cases e; rfl
  | _, _, _, .cons (d := d) (ds := ds) r t, e => by
    cases r with
    | bl i =>
      unfold blsD at e
      cases q : blsD ds with
      | none => rw [q] at e; cases e
      | some ms => rw [q] at e; cases e; rw [blsD_ok t q]; rfl
    | _ => cases e
def minI : List Int → Int
  | [] => 0
  | [n] => n
  | n :: ns => min n (minI ns)
def maxI : List Int → Int
  | [] => 0
  | [n] => n
  | n :: ns => max n (maxI ns)
theorem minI_spec : ∀ ns : List Int, ns ≠ [] → minI ns ∈ ns ∧ ∀ y ∈ ns, minI ns ≤ y
  | [], h => absurd rfl h
  | [n], _ => ⟨by simp [minI], by simp [minI]⟩
  | n :: m :: ns, _ => by
    obtain ⟨h1, h2⟩ := minI_spec (m :: ns) (by simp)
    have e : minI (n :: m :: ns) = min n (minI (m :: ns)) := rfl
    rw [e]
    constructor
    · rcases Int.le_total n (minI (m :: ns)) with h | h
      · rw [Int.min_eq_left h]; exact List.mem_cons_self
      · rw [Int.min_eq_right h]; exact List.mem_cons_of_mem _ h1
    · intro y hy
      rcases List.mem_cons.mp hy with rfl | hy
      · omega
      · have := h2 y hy; omega
theorem maxI_spec : ∀ ns : List Int, ns ≠ [] → maxI ns ∈ ns ∧ ∀ y ∈ ns, y ≤ maxI ns
  | [], h => absurd rfl h
  | [n], _ => ⟨by simp [maxI], by simp [maxI]⟩
  | n :: m :: ns, _ => by
    obtain ⟨h1, h2⟩ := maxI_spec (m :: ns) (by simp)
    have e : maxI (n :: m :: ns) = max n (maxI (m :: ns)) := rfl
    rw [e]
    constructor
    · rcases Int.le_total n (maxI (m :: ns)) with h | h
      · rw [Int.max_eq_right h]; exact List.mem_cons_of_mem _ h1
      · rw [Int.max_eq_left h]; exact List.mem_cons_self
    · intro y hy
      rcases List.mem_cons.mp hy with rfl | hy
      · omega
      · have := h2 y hy; omega
/-- of a list of ints -/
def onInts (f : List Int → Option D) : FB := fun S ds => match ds with
  | [d] => (rdlD S d).bind fun xs => (intsD xs).bind f
  | _ => none
theorem onInts_ok {f : List Int → Option D} {G : Hp} {ψ : List Addr} {S : Sto} {H : Hp} {ds : List D} {d : D} {xs : List V} (R : Rep X.K X.mg G ψ S H) (r : DVs X.K G ψ ds xs) (e : onInts f S ds = some d) : ∃ p ns, xs = [.ref p] ∧ SqL X.K H p (ns.map V.int) ∧ f ns = some d := by
  unfold onInts at e
  split at e
  · obtain ⟨v, rfl, r1⟩ := r.one
    rename_i d0
    cases q : rdlD S d0 with
    | none => rw [q] at e; cases e
    | some ys =>
      rw [q, Option.bind_some] at e
      obtain ⟨p, vs, rfl, hq, z, t⟩ := rdlD_ok R r1 q
      cases q2 : intsD ys with
      | none => rw [q2] at e; cases e
      | some ns =>
        rw [q2, Option.bind_some] at e
        rw [intsD_ok t q2] at hq
        exact ⟨p, ns, rfl, hq, e⟩
  · cases e
def sumD : FB := onInts fun ns => some (.int ns.sum)
theorem cd_sum (hc : X.calm = true) : CallD X (.builtin "sum") sumD := by
  rintro pins s σ H xs us Q I rv ⟨G, ψ, S, ds, d, R, r, e, k⟩
  obtain ⟨p, ns, rfl, hq, e⟩ := onInts_ok R r e
  cases e
  exact cr_sum hc pins s σ H _ us Q I rv ⟨p, ns, rfl, hq, k _ _ _ Ext.refl R (.int _)⟩
/-- the least of a list, of two -/
def minD : FB := fun S ds => match ds with
  | [.int i, .int j] => some (.int (if j < i then j else i))
  | ds => onInts (fun ns => if ns = [] then none else some (.int (minI ns))) S ds
def maxD : FB := fun S ds => match ds with
  | [.int i, .int j] => some (.int (if j > i then j else i))
  | ds => onInts (fun ns => if ns = [] then none else some (.int (maxI ns))) S ds
theorem cd_min (hc : X.calm = true) : CallD X (.builtin "min") minD := by
  rintro pins s σ H xs us Q I rv ⟨G, ψ, S, ds, d, R, r, e, k⟩
  unfold minD at e
  split at e
  · obtain ⟨v, u, rfl, r1, r2⟩ := r.two
    cases r1; cases r2; cases e
    exact call_min2 hc pins s σ H _ us Q I rv ⟨_, _, rfl, k _ _ _ Ext.refl R (.int _)⟩
  · obtain ⟨p, ns, rfl, hq, e⟩ := onInts_ok R r e
    split at e
    · cases e
    · rename_i hn
      cases e
      refine cr_min hc pins s σ H _ us Q I rv ⟨p, ns, rfl, hq, by cases ns <;> simp_all, fun m hm hl => ?_⟩
      obtain ⟨h1, h2⟩ := minI_spec ns hn
      have : m = minI ns := Int.le_antisymm (hl _ h1) (h2 _ hm)
      subst this
      exact k _ _ _ Ext.refl R (.int _)
theorem cd_max (hc : X.calm = true) : CallD X (.builtin "max") maxD := by
  rintro pins s σ H xs us Q I rv ⟨G, ψ, S, ds, d, R, r, e, k⟩
  unfold maxD at e
  split at e
  · obtain ⟨v, u, rfl, r1, r2⟩ := r.two
    cases r1; cases r2; cases e
    exact call_max2 hc pins s σ H _ us Q I rv ⟨_, _, rfl, k _ _ _ Ext.refl R (.int _)⟩
  · obtain ⟨p, ns, rfl, hq, e⟩ := onInts_ok R r e
    split at e
    · cases e
    · rename_i hn
      cases e
      refine cr_max hc pins s σ H _ us Q I rv ⟨p, ns, rfl, hq, by cases ns <;> simp_all, fun m hm hl => ?_⟩
      obtain ⟨h1, h2⟩ := maxI_spec ns hn
      have : m = maxI ns := Int.le_antisymm (h2 _ hm) (hl _ h1)
      subst this
      exact k _ _ _ Ext.refl R (.int _)
def onBls (f : List Bool → Bool) : FB := fun S ds => match ds with
  | [d] => (rdlD S d).bind fun xs => (blsD xs).map fun bs => .bl (f bs)
  | _ => none
theorem onBls_ok {f : List Bool → Bool} {G : Hp} {ψ : List Addr} {S : Sto} {H : Hp} {ds : List D} {d : D} {xs : List V} (R : Rep X.K X.mg G ψ S H) (r : DVs X.K G ψ ds xs) (e : onBls f S ds = some d) : ∃ p bs, xs = [.ref p] ∧ SqL X.K H p (bs.map V.bl) ∧ d = .bl (f bs) := by
  unfold onBls at e
  split at e
  · obtain ⟨v, rfl, r1⟩ := r.one
    rename_i d0
    cases q : rdlD S d0 with
    | none => rw [q] at e; cases e
    | some ys =>
      rw [q, Option.bind_some] at e
      obtain ⟨p, vs, rfl, hq, z, t⟩ := rdlD_ok R r1 q
      cases q2 : blsD ys with
      | none => rw [q2] at e; cases e
      | some bs =>
        rw [q2] at e
        cases e
        rw [blsD_ok t q2] at hq
        exact ⟨p, bs, rfl, hq, rfl⟩
  · cases e
def allD : FB := onBls fun bs => bs.all id
def anyD : FB := onBls fun bs => bs.any id
theorem cd_all (hc : X.calm = true) : CallD X (.builtin "all") allD := by
  rintro pins s σ H xs us Q I rv ⟨G, ψ, S, ds, d, R, r, e, k⟩
  obtain ⟨p, bs, rfl, hq, rfl⟩ := onBls_ok R r e
  exact cr_all hc pins s σ H _ us Q I rv ⟨p, bs, rfl, hq, k _ _ _ Ext.refl R (.bl _)⟩
theorem cd_any (hc : X.calm = true) : CallD X (.builtin "any") anyD := by
  rintro pins s σ H xs us Q I rv ⟨G, ψ, S, ds, d, R, r, e, k⟩
  obtain ⟨p, bs, rfl, hq, rfl⟩ := onBls_ok R r e
  exact cr_any hc pins s σ H _ us Q I rv ⟨p, bs, rfl, hq, k _ _ _ Ext.refl R (.bl _)⟩
def absD : FB := fun _ ds => match ds with | [.int i] => some (.int (if i < 0 then -i else i)) | _ => none
theorem cd_abs : CallD X (.builtin "abs") absD := by
  rintro pins s σ H xs us Q I rv ⟨G, ψ, S, ds, d, R, r, e, k⟩
  unfold absD at e
  split at e
  · obtain ⟨v, rfl, r1⟩ := r.one
    cases r1; cases e
    exact call_abs pins s σ H _ us Q I rv ⟨_, rfl, k _ _ _ Ext.refl R (.int _)⟩
  · cases e
def intD : FB := fun _ ds => match ds with | [.int i] => some (.int i) | [.bl k] => some (.int (if k then 1 else 0)) | _ => none
theorem cd_int : CallD X (.type "int") intD := by
  rintro pins s σ H xs us Q I rv ⟨G, ψ, S, ds, d, R, r, e, k⟩
  unfold intD at e
  split at e
  · obtain ⟨v, rfl, r1⟩ := r.one
    cases r1; cases e
    exact call_int1 pins s σ H _ us Q I rv (.inl ⟨_, rfl, k _ _ _ Ext.refl R (.int _)⟩)
  · obtain ⟨v, rfl, r1⟩ := r.one
    cases r1; cases e
    exact call_int1 pins s σ H _ us Q I rv (.inr ⟨_, rfl, k _ _ _ Ext.refl R (.int _)⟩)
  · cases e
def strD : FB := fun _ ds => match ds with | [.int i] => if i.natAbs.log2 < 1920 then some (.str (toString i)) else none | _ => none
theorem cd_str : CallD X (.type "str") strD := by
  rintro pins s σ H xs us Q I rv ⟨G, ψ, S, ds, d, R, r, e, k⟩
  unfold strD at e
  split at e
  · obtain ⟨v, rfl, r1⟩ := r.one
    cases r1
    split at e
    · rename_i hz
      cases e
      exact call_str_int pins s σ H _ us Q I rv ⟨_, rfl, hz, k _ _ _ Ext.refl R (.str _)⟩
    · cases e
  · cases e
/-! calls that make a new list -/
abbrev FN := Sto → List D → Option (List D)
def CallN (X : Cx) (f : Value) (g : FN) : Prop := CallR X f fun xs H Q => ∃ G ψ S ds es, Rep X.K X.mg G ψ S H ∧ DVs X.K G ψ ds xs ∧ g S ds = some es ∧
  ∀ p vs, DVs X.K G ψ es vs → vs.length ≤ sizeLine → H p = none → Q (.ref p) (upd H p (.lst vs))
def nB (g : FN) (ma : Nv → M (List D)) : Nv → M (List D) := fun ρ => bnd (ma ρ) fun ds => ask fun S => g S ds
theorem nB_read {g : FN} {σ : St} {H : Hp} {Q : VK} : tN X.K X.mg W (nB g mr) σ H Q → tAr X.K X.mg W mr σ H fun xs H1 => ∃ G ψ S ds es, Rep X.K X.mg G ψ S H1 ∧ DVs X.K G ψ ds xs ∧ g S ds = some es ∧
    ∀ p vs, DVs X.K G ψ es vs → vs.length ≤ sizeLine → H1 p = none → Q (.ref p) (upd H1 p (.lst vs)) := by
  rintro ⟨G, ψ, S, ρ, R, E, F⟩
  refine ⟨G, ψ, S, ρ, R, E, F.bnd fun ds S1 G1 ψ1 H1 X1 R1 F1 vs dvs => ?_⟩
  obtain ⟨es, e, F2⟩ := F1.ask
  exact ⟨G1, ψ1, S1, ds, es, R1, dvs, e, fun p us dus hl hp => F2.done (Ext.laid hp) (R1.priv (R1.gfree hp) (R1.notMem hp)) p us dus hl (X1.back R R1 hp) upd_same (R1.gfree hp) (R1.notMem hp)⟩
theorem dn_ty {T : String} {g : FN} {x : Str} {p : Pos} (hc : CallN X (.type T) g) (hm : X.mg x = none) (ha : DA X W (a :: es) mr) (hg : Gl X x := by rfl) (hv : bootBuiltins x = some (.type T) := by decide +kernel) (hn : x ≠ "__name__" := by decide) (hdb : (x == ("__debug__" : Str)) = false := by decide)
    (he : starEach (a :: es) X.env = (false, eval a X.env) :: starEach es X.env := by rfl) (hpl : (backTo pos (starEach es X.env)).any (·.1) = false := by rfl) : DN X W (.Call (.Name x p) (a :: es) [] pos) (nB g mr) :=
  ⟨PEimp (pe_callTy hc hg hm hv ha.pa hn hdb he hpl) fun _ _ _ q => nB_read q⟩
theorem dn_bi {id : String} {g : FN} {x : Str} {p : Pos} (hc : CallN X (.builtin id) g) (hm : X.mg x = none) (ha : DA X W (a :: es) mr) (hg : Gl X x := by rfl) (hv : bootBuiltins x = some (.builtin id) := by decide +kernel) (hn : x ≠ "__name__" := by decide) (hdb : (x == ("__debug__" : Str)) = false := by decide)
    (he : starEach (a :: es) X.env = (false, eval a X.env) :: starEach es X.env := by rfl) (hpl : (backTo pos (starEach es X.env)).any (·.1) = false := by rfl) : DN X W (.Call (.Name x p) (a :: es) [] pos) (nB g mr) :=
  ⟨PEimp (pe_callB hc hg hm hv ha.pa hn hdb he hpl) fun _ _ _ q => nB_read q⟩
def listD : FN := fun S ds => match ds with | [d] => seqD S d | _ => none
theorem cn_list : CallN X (.type "list") listD := by
  rintro pins s σ H xs us Q I rv ⟨G, ψ, S, ds, es, R, r, e, k⟩
  unfold listD at e
  split at e
  · obtain ⟨v, rfl, r1⟩ := r.one
    obtain ⟨p, vs, rfl, hq, z, t⟩ := seqD_ok R r1 e
    exact call_list_of pins s σ H _ us Q I rv ⟨p, vs, rfl, hq.symm, fun l hl => k l vs t z hl⟩
  · cases e
end
end Nt

namespace Nt
open PySem PySem.Spec L2
open PyProof.Rows hiding St

/-! ### isinstance against built-in types -/
def tyD (S : Sto) : D → Option String
  | .non => some "NoneType"
  | .bl _ => some "bool"
  | .int _ => some "int"
  | .str _ => some "str"
  | .tup _ => some "tuple"
  | .lst _ => some "list"
  | .scr _ => some "list"
  | .dct _ => some "dict"
  | .ref n => match S[n]? with | some (.lst _) => some "list" | some (.dct _) => some "dict" | _ => none
def isTy (t T : String) : Bool := t == T || (t == "bool" && T == "int")
def tyNames : List String := ["NoneType", "bool", "int", "str", "tuple", "list", "dict"]
theorem isTy_ok : ∀ t ∈ tyNames, ∀ T ∈ ["bool", "int", "str", "tuple", "list", "dict"], kitB t T = some (isTy t T) := by decide +kernel
theorem tyD_mem {S : Sto} {d : D} {t : String} (e : tyD S d = some t) : t ∈ tyNames := by
  unfold tyD at e
  split at e <;> first | (cases e; simp [tyNames]) | skip
  split at e <;> cases e <;> simp [tyNames]
section
variable {X : Cx} {W : WX} {a b e o : Expr} {ma mb me mo : Nv → M D} {pos p2 : Pos} {es : List Expr} {mr : Nv → M (List D)}
theorem tyD_ok {K : PySem.W.Frag} {mg : Str → Option Value} {G : Hp} {ψ : List Addr} {S : Sto} {H : Hp} (R : Rep K mg G ψ S H) {d : D} {v : V} (r : DV K G ψ d v) {t : String} (e : tyD S d = some t) : TyX K H v (.type t) := by
  cases r with
  | non => cases e; exact .base .non
  | bl b => cases e; exact .base (.bl b)
  | int i => cases e; exact .base (.int i)
  | str x => cases e; exact .base (.str x)
  | tup h z r =>
    cases e
    rcases Same.seqT R.sub h with (h | ⟨o, h⟩) | ⟨o, its, n, h1, h2, _⟩
    · exact .base (.tup h)
    · exact .fTuple h
    · exact .kTuple h1 h2
  | lst h z r => cases e; exact .base (.lst (R.sub _ _ h))
  | scr h z =>
    cases e
    rcases R.sub.seq h with (h | ⟨o, h⟩) | ⟨o, its, n, h1, h2, _⟩
    · exact .base (.lst h)
    · exact .base (.frz h)
    · exact .kList h1 h2
  | dct h z r => cases e; exact .base (.dK (R.sub _ _ h))
  | @ref n a h =>
    dsimp only [tyD] at e
    cases q : S[n]? with
    | none => rw [q] at e; cases e
    | some o =>
      rw [q] at e
      cases o with
      | lst xs =>
        obtain ⟨a', ha, _, vs, hv, z, r⟩ := R.sto n _ q
        rw [h] at ha; cases ha
        cases e; exact .base (.lst hv)
      | dct xs =>
        obtain ⟨a', ha, _, vs, hv, z, r⟩ := R.sto n _ q
        rw [h] at ha; cases ha
        cases e; exact .base (.dK hv)
      | ins c fs => cases e
def eIs (Ts : List String) (ma : Nv → M D) : Nv → M D := fun ρ => bnd (ma ρ) fun d => ask fun S => (tyD S d).map fun t => .bl (Ts.any fun T => isTy t T)
theorem de_isi {p pt : Pos} {T : String} {nT : Str} (ha : DE X W a ma) (hm : X.mg "isinstance" = none) (hmT : X.mg nT = none) (hT : T ∈ ["bool", "int", "str", "tuple", "list", "dict"]) (hvT : bootBuiltins nT = some (.type T) := by decide +kernel) (hg : Gl X "isinstance" := by rfl) (hgT : Gl X nT := by rfl)
    (hnT : nT ≠ "__name__" := by decide) (hdT : (nT == ("__debug__" : Str)) = false := by decide)
    (hsa : starEach [a, .Name nT pt] X.env = (false, eval a X.env) :: starEach [.Name nT pt] X.env := by rfl) : DE X W (.Call (.Name "isinstance" p) [a, .Name nT pt] [] pos) (eIs [T] ma) := by
  refine ⟨PEimp (pe_callB call_isi hg hm (by decide +kernel) (pa_cons ha.pe (pa_cons (pe_bltn (v := .ty T) hgT hmT hvT rfl hnT hdT) pa_nil (by rfl)) hsa) (by decide) (by decide) hsa (by rfl)) ?_⟩
  rintro σ H Q ⟨G, ψ, S, ρ, R, E, F⟩
  refine ⟨G, ψ, S, ρ, R, E, F.bnd fun d S1 G1 ψ1 H1 X1 R1 F1 v dv => ?_⟩
  obtain ⟨t, e, F2⟩ := Fin.map (g := fun _ t => D.bl ([T].any fun T => isTy t T)) F1
  refine ⟨v, .ty T, .type t, .type T, isTy t T, rfl, .ty T, tyD_ok R1 dv e, kit_ty (isTy_ok t (tyD_mem e) T hT), ?_⟩
  have := F2.done Ext.refl R1 _ (.bl _)
  simpa using this
theorem de_isi2 {p pt pt2 pp : Pos} {kk : Nat} {T T2 : String} {nT nT2 : Str} (ha : DE X W a ma) (hm : X.mg "isinstance" = none) (hmT : X.mg nT = none) (hmT2 : X.mg nT2 = none) (hT : T ∈ ["bool", "int", "str", "tuple", "list", "dict"]) (hT2 : T2 ∈ ["bool", "int", "str", "tuple", "list", "dict"]) (hvT : bootBuiltins nT = some (.type T) := by decide +kernel) (hvT2 : bootBuiltins nT2 = some (.type T2) := by decide +kernel) (hg : Gl X "isinstance" := by rfl) (hgT : Gl X nT := by rfl) (hgT2 : Gl X nT2 := by rfl)
    (hnT : nT ≠ "__name__" := by decide) (hdT : (nT == ("__debug__" : Str)) = false := by decide) (hnT2 : nT2 ≠ "__name__" := by decide) (hdT2 : (nT2 == ("__debug__" : Str)) = false := by decide)
    (hsa : starEach [a, .Tuple [.Name nT pt, .Name nT2 pt2] kk pp] X.env = (false, eval a X.env) :: starEach [.Tuple [.Name nT pt, .Name nT2 pt2] kk pp] X.env := by rfl) : DE X W (.Call (.Name "isinstance" p) [a, .Tuple [.Name nT pt, .Name nT2 pt2] kk pp] [] pos) (eIs [T, T2] ma) := by
  refine ⟨PEimp (pe_callB call_isiT hg hm (by decide +kernel) (pa_cons ha.pe (pa_cons (pe_tup (pa_cons (pe_bltn (v := .ty T) hgT hmT hvT rfl hnT hdT) (pa_cons (pe_bltn (v := .ty T2) hgT2 hmT2 hvT2 rfl hnT2 hdT2) pa_nil (by rfl)) (by rfl))) pa_nil (by rfl)) hsa) (by decide) (by decide) hsa (by rfl)) ?_⟩
  rintro σ H Q ⟨G, ψ, S, ρ, R, E, F⟩
  refine ⟨G, ψ, S, ρ, R, E, F.bnd fun d S1 G1 ψ1 H1 X1 R1 F1 v dv => ⟨by show 2 ≤ sizeLine; decide, fun q hq => ?_⟩⟩
  obtain ⟨t, e, F2⟩ := Fin.map (g := fun _ t => D.bl ([T, T2].any fun T => isTy t T)) F1
  have x := Ext.lay (o := .tup [.ty T, .ty T2]) R1 hq
  have k1 := kit_ty (K := X.K) (isTy_ok t (tyD_mem e) T hT)
  have k2 := kit_ty (K := X.K) (isTy_ok t (tyD_mem e) T2 hT2)
  refine ⟨v, q, [.ty T, .ty T2], .type t, [.type T, .type T2], isTy t T || isTy t T2, rfl, upd_same, .cons (.ty T) (.cons (.ty T2) .nil), tyD_ok (R1.lay hq) (x.dv dv) e, ?_, ?_⟩
  · refine kitAny_cons k1 (fun h => ?_) (fun h => by rw [h]; rfl)
    rw [h, Bool.false_or]
    refine kitAny_cons k2 (fun h2 => ?_) (fun h2 => h2)
    rw [h2]; exact kitAny_nil
  · have := F2.done x (R1.lay hq) _ (.bl _)
    simpa using this

/-! ### methods of lists that the store holds -/
abbrev FM := Sto → List D → List D → Option (D × List D)
def MtL (X : Cx) (id : String) (f : FM) : Prop := MtR X id fun x vs H Q => ∃ G ψ S n a xs ds d ys, Rep X.K X.mg G ψ S H ∧ x = .ref a ∧ ψ[n]? = some a ∧ S[n]? = some (.lst xs) ∧ DVs X.K G ψ ds vs ∧ f S xs ds = some (d, ys) ∧
  ∀ H' v, Ext G ψ H G ψ H' → Rep X.K X.mg G ψ (S.set n (.lst ys)) H' → DV X.K G ψ d v → Q v H'
def mtM (f : FM) (r : D) (ds : List D) : M D := fun S => match r with
  | .ref n => (match S[n]? with
    | some (.lst xs) => (match f S xs ds with
      | some (d, ys) => .ok d (S.set n (.lst ys))
      | none => .bad)
    | _ => .bad)
  | _ => .bad
def eMt (f : FM) (mo : Nv → M D) (mr : Nv → M (List D)) : Nv → M D := fun ρ => bnd (mo ρ) fun r => bnd (mr ρ) fun ds => mtM f r ds
theorem mtM_ok {G : Hp} {ψ : List Addr} {S : Sto} {H : Hp} {W : XD} {f : FM} {r : D} {ds : List D} {v : V} {vs : List V} {Q : VK} (R : Rep X.K X.mg G ψ S H) (dv : DV X.K G ψ r v) (dvs : DVs X.K G ψ ds vs)
    (F : Fin X.K X.mg G ψ H W (mtM f r ds S) fun d _ G' ψ' H' => ∀ v, DV X.K G' ψ' d v → Q v H') :
    ∃ G ψ S n a xs ds d ys, Rep X.K X.mg G ψ S H ∧ v = .ref a ∧ ψ[n]? = some a ∧ S[n]? = some (.lst xs) ∧ DVs X.K G ψ ds vs ∧ f S xs ds = some (d, ys) ∧
      ∀ H' v, Ext G ψ H G ψ H' → Rep X.K X.mg G ψ (S.set n (.lst ys)) H' → DV X.K G ψ d v → Q v H' := by
  unfold mtM at F
  cases dv with
  | @ref n a h =>
    dsimp only at F
    cases q : S[n]? with
    | none => rw [q] at F; exact F.elim
    | some o =>
      rw [q] at F
      cases o with
      | lst xs =>
        dsimp only at F
        cases q2 : f S xs ds with
        | none => rw [q2] at F; exact F.elim
        | some p =>
          obtain ⟨d, ys⟩ := p
          rw [q2] at F
          exact ⟨G, ψ, S, n, a, xs, ds, d, ys, R, rfl, h, q, dvs, q2, fun H' v x R' dv => F _ _ _ x R' v dv⟩
      | ins c fs => exact F.elim
      | dct c => exact F.elim
  | _ => exact F.elim
theorem mt_ty {G : Hp} {ψ : List Addr} {S : Sto} {H : Hp} {W : XD} {f : FM} {r : D} {ds : List D} {v : V} {q : D → Sto → Hp → List Addr → Hp → Prop} (R : Rep X.K X.mg G ψ S H) (dv : DV X.K G ψ r v) (hl : ∃ xs, lstD S r = some xs) : tyV X.K "list" v H := by
  obtain ⟨xs, e⟩ := hl
  obtain ⟨p, vs, rfl, h, _⟩ := lstD_ok R dv e
  exact .inl ⟨rfl, vs, SqL.of h⟩
theorem de_mt {m : Str} {id : String} {f : FM} {apos : Pos} (slot : Slot "list" m id) (hty : typeOf (.builtin id) = pure (.type "method_descriptor")) (hm : MtL X id f) (ho : DE X W o mo) (ha : DA X W (a :: es) mr)
    (hbase : attributeBase o m X.env (eval o X.env) = eval o X.env := by rfl)
    (hfew : ((backTo pos (starEach (a :: es) X.env)).all (fun x => !x.1) && (backToKw pos (keywordEach [] X.env)).all (fun x => x.1.isSome)
      && decide ((a :: es).length + ([] : List Keyword).length + (if ([] : List Keyword).isEmpty then 0 else 1) < 30)) = true := by rfl)
    (hline : (apos.endLine == pos.line) = true := by rfl) (hs : starEach (a :: es) X.env = (false, eval a X.env) :: starEach es X.env := by rfl) (hplain : (backTo pos (starEach es X.env)).any (·.1) = false := by rfl) :
    DE X W (.Call (.Attribute o m apos) (a :: es) [] pos) (fun ρ => bnd (mo ρ) fun r => bnd (ask fun S => (lstD S r).map fun _ => ()) fun _ => bnd (mr ρ) fun ds => mtM f r ds) := by
  refine ⟨PEimp (pe_bm PySem.F.plainAttrs_list slot hty hm ho.pe ha.pa hbase hfew hline hs hplain) ?_⟩
  rintro σ H Q ⟨G, ψ, S, ρ, R, E, F⟩
  refine ⟨G, ψ, S, ρ, R, E, F.bnd fun r S1 G1 ψ1 H1 X1 R1 F1 v dv => ?_⟩
  obtain ⟨u, e, F2⟩ := F1.askB
  have hl : ∃ xs, lstD S1 r = some xs := by
    cases q : lstD S1 r with
    | none => rw [q] at e; cases e
    | some xs => exact ⟨xs, rfl⟩
  refine ⟨mt_ty (W := fun _ _ _ => False) (f := f) (ds := []) (q := fun _ _ _ _ _ => True) R1 dv hl, G1, ψ1, S1, ρ, R1, E.up X1, F2.bnd fun ds S2 G2 ψ2 H2 X2 R2 F3 vs dvs => ?_⟩
  exact mtM_ok R2 (X2.dv dv) dvs F3
theorem de_mt0 {m : Str} {id : String} {f : FM} {apos : Pos} (slot : Slot "list" m id) (hty : typeOf (.builtin id) = pure (.type "method_descriptor")) (hm : MtL X id f) (ho : DE X W o mo)
    (hbase : attributeBase o m X.env (eval o X.env) = eval o X.env := by rfl) (hline : (apos.endLine == pos.line) = true := by rfl) :
    DE X W (.Call (.Attribute o m apos) [] [] pos) (fun ρ => bnd (mo ρ) fun r => bnd (ask fun S => (lstD S r).map fun _ => ()) fun _ => mtM f r []) := by
  refine ⟨PEimp (pe_bm0 PySem.F.plainAttrs_list slot hty hm ho.pe hbase hline) ?_⟩
  rintro σ H Q ⟨G, ψ, S, ρ, R, E, F⟩
  refine ⟨G, ψ, S, ρ, R, E, F.bnd fun r S1 G1 ψ1 H1 X1 R1 F1 v dv => ?_⟩
  obtain ⟨u, e, F2⟩ := F1.askB
  have hl : ∃ xs, lstD S1 r = some xs := by
    cases q : lstD S1 r with
    | none => rw [q] at e; cases e
    | some xs => exact ⟨xs, rfl⟩
  exact ⟨mt_ty (W := fun _ _ _ => False) (f := f) (ds := []) (q := fun _ _ _ _ _ => True) R1 dv hl, mtM_ok R1 dv .nil F2⟩
theorem Rep.list {K : PySem.W.Frag} {mg : Str → Option Value} {G : Hp} {ψ : List Addr} {S : Sto} {H : Hp} (R : Rep K mg G ψ S H) {n : Nat} {a : Addr} {xs : List D} (ha : ψ[n]? = some a) (e : S[n]? = some (.lst xs)) : ∃ vs, G a = none ∧ H a = some (.lst vs) ∧ vs.length ≤ sizeLine ∧ DVs K G ψ xs vs := by
  obtain ⟨a', ha', g, vs, hv, z, r⟩ := R.sto n _ e
  rw [ha] at ha'; cases ha'
  exact ⟨vs, g, hv, z, r⟩
theorem Rep.setL {K : PySem.W.Frag} {mg : Str → Option Value} {G : Hp} {ψ : List Addr} {S : Sto} {H : Hp} (R : Rep K mg G ψ S H) {n : Nat} {a : Addr} {ys : List D} {us : List V} (ha : ψ[n]? = some a) (g : G a = none) (z : us.length ≤ sizeLine) (r : DVs K G ψ ys us) :
    Rep K mg G ψ (S.set n (.lst ys)) (upd H a (.lst us)) := R.write ha g ⟨us, upd_same, z, r⟩
def appendF : FM := fun _ xs ds => match ds with | [d] => if xs.length < sizeLine then some (.non, xs ++ [d]) else none | _ => none
theorem ml_append : MtL X "list.append" appendF := by
  rintro pins s σ H x vs v us Q I rx rv ⟨G, ψ, S, n, a, xs, ds, d, ys, R, rfl, ha, e, r, ef, k⟩
  obtain ⟨ws, g, hv, z, t⟩ := R.list ha e
  unfold appendF at ef
  split at ef
  · obtain ⟨w, rfl, r1⟩ := r.one
    split at ef
    · rename_i hz
      cases ef
      refine mt_append pins s σ H _ _ v us Q I rx rv ⟨a, ws, w, rfl, rfl, hv, by rw [← t.length]; exact hz, k _ _ (Ext.write ha) (R.setL ha g ?_ (t.app (.cons r1 .nil))) .non⟩
      rw [List.length_append, ← t.length]
      exact hz
    · cases ef
  · cases ef
def popF : FM := fun _ xs ds => match ds with
  | [] => (xs[xs.length - 1]?).map fun d => (d, xs.dropLast)
  | [.int i] => if -(2 ^ 63) ≤ i ∧ i < 2 ^ 63 then (seqIndex? i xs.length).bind fun k => (xs[k]?).map fun d => (d, xs.eraseIdx k) else none
  | _ => none
theorem DVs.dropLast {K : PySem.W.Frag} {G : Hp} {ψ : List Addr} {ds : List D} {vs : List V} (r : DVs K G ψ ds vs) : DVs K G ψ ds.dropLast vs.dropLast := by
  rw [List.dropLast_eq_take, List.dropLast_eq_take, r.length]
  exact r.take _
theorem ml_pop : MtL X "list.pop" popF := by
  rintro pins s σ H x vs v us Q I rx rv ⟨G, ψ, S, n, a, xs, ds, d, ys, R, rfl, ha, e, r, ef, k⟩
  obtain ⟨ws, g, hv, z, t⟩ := R.list ha e
  unfold popF at ef
  split at ef
  · cases r
    cases q : xs[xs.length - 1]? with
    | none => rw [q] at ef; cases ef
    | some d0 =>
      rw [q] at ef
      cases ef
      obtain ⟨w, hw, dw⟩ := t.get q
      rw [t.length] at hw
      refine mt_pop pins s σ H _ _ v us Q I rx rv ⟨a, ws, w, rfl, rfl, hv, hw, k _ _ (Ext.write ha) (R.setL ha g ?_ t.dropLast) dw⟩
      rw [List.length_dropLast]; omega
  · obtain ⟨w, rfl, r1⟩ := r.one
    cases r1
    split at ef
    · rename_i i hc
      cases q : seqIndex? i xs.length with
      | none => rw [q] at ef; cases ef
      | some j =>
        rw [q, Option.bind_some] at ef
        cases q2 : xs[j]? with
        | none => rw [q2] at ef; cases ef
        | some d0 =>
          rw [q2] at ef
          cases ef
          obtain ⟨w, hw, dw⟩ := t.get q2
          rw [t.length] at q
          refine mt_popAt pins s σ H _ _ v us Q I rx rv ⟨a, ws, i, j, w, rfl, rfl, hv, hc.1, hc.2, q, hw, k _ _ (Ext.write ha) (R.setL ha g ?_ (t.erase j)) dw⟩
          exact Nat.le_trans (List.length_eraseIdx_le _ _) z
    · cases ef
  · cases ef
def extendF : FM := fun S xs ds => match ds with | [d] => (lstD S d).bind fun ys => if xs.length + ys.length ≤ sizeLine then some (.non, xs ++ ys) else none | _ => none
theorem ml_extend : MtL X "list.extend" extendF := by
  rintro pins s σ H x vs v us Q I rx rv ⟨G, ψ, S, n, a, xs, ds, d, ys, R, rfl, ha, e, r, ef, k⟩
  obtain ⟨ws, g, hv, z, t⟩ := R.list ha e
  unfold extendF at ef
  split at ef
  · obtain ⟨w, rfl, r1⟩ := r.one
    rename_i d0
    cases q : lstD S d0 with
    | none => rw [q] at ef; cases ef
    | some zs =>
      rw [q, Option.bind_some] at ef
      split at ef
      · rename_i hz
        cases ef
        obtain ⟨p, us', rfl, hp, z2, t2⟩ := lstD_ok R r1 q
        have hz' : ws.length + us'.length ≤ sizeLine := by rw [← t.length, ← t2.length]; exact hz
        refine mt_extend pins s σ H _ _ v us Q I rx rv ⟨a, p, ws, us', rfl, rfl, hv, hp, hz', k _ _ (Ext.write ha) (R.setL ha g (by rw [List.length_append]; exact hz') (t.app t2)) .non⟩
      · cases ef
  · cases ef

/-! ### items of lists written -/
def getL (S : Sto) (o i : D) : Option D := match o, i with
  | .ref n, .int k => (match S[n]? with | some (.lst xs) => atI xs k | _ => none)
  | _, _ => none
def setL (S : Sto) (o i d : D) : Option Sto := match o, i with
  | .ref n, .int k => (match S[n]? with | some (.lst xs) => (ixN xs.length k).map fun j => S.set n (.lst (xs.set j d)) | _ => none)
  | _, _ => none
theorem pset_ok : PSet X fun o i v H Q => ∃ G ψ S d1 d2 d S', Rep X.K X.mg G ψ S H ∧ DV X.K G ψ d1 o ∧ DV X.K G ψ d2 i ∧ DV X.K G ψ d v ∧ setL S d1 d2 d = some S' ∧ ∀ H', Ext G ψ H G ψ H' → Rep X.K X.mg G ψ S' H' → Q H' := by
  rintro pins s σ H o i v ov iv u Q I ro ri rv ⟨G, ψ, S, d1, d2, d, S', R, r1, r2, r3, e, k⟩
  unfold setL at e
  split at e
  · rename_i n kk
    cases r1 with
    | @ref _ a ha =>
      cases r2
      split at e
      · rename_i xs q
        obtain ⟨ws, g, hv, z, t⟩ := R.list ha q
        cases q2 : ixN xs.length kk with
        | none => rw [q2] at e; cases e
        | some j =>
          rw [q2] at e
          cases e
          exact L2.set_list pins s σ H _ _ _ ov iv u Q I ro ri rv ⟨a, ws, kk, j, rfl, rfl, hv, by rw [← t.length]; exact q2, k _ (Ext.write ha) (R.setL ha g (by rw [List.length_set]; exact z) (t.set j r3))⟩
      · cases e
  · cases e
theorem pget_list : PGet X fun o i H Q => ∃ p xs k v, o = .ref p ∧ i = .int k ∧ SqL X.K H p xs ∧ atI xs k = some v ∧ Q v H := by
  rintro pins s σ H x y v u Q I rx ry ⟨p, xs, i, z, rfl, rfl, hq, he, q⟩
  cases rx
  obtain ⟨t, rfl⟩ := ry
  obtain ⟨its, r, pl, hz⟩ := I.list hq
  obtain ⟨j, h1, h2, h3, h4, h5⟩ := atI_get he
  obtain ⟨w, ew, rw'⟩ := r.get h2
  have hl := r.length
  have hn := line63
  have fin : EP X pins σ Q w s := ⟨z, H, I, rw', q⟩
  by_cases h0 : 0 ≤ i
  · have hj : i.toNat = j := by
      rw [seqIndex_of h0 h5] at h1
      exact Option.some.inj h1
    exact PySem.wpAny_getItem_list pl.isList h0 (by omega) (by rw [hj]; simpa using ew) fin
  · have hj : (i + (its.toArray.size : Int)).toNat = j := by
      rw [seqIndex_neg (by omega) h4] at h1
      rw [List.size_toArray, ← hl]
      exact Option.some.inj h1
    exact wpAny_getItem_list_neg pl.isList (by omega) (by rw [List.size_toArray] <;> omega) (by omega) (by rw [hj]; simpa using ew) fin
end
end Nt

namespace Nt
open PySem PySem.Spec L2
open PyProof.Rows hiding St

section
variable {X : Cx} {W : WX} {a b e o i : Expr} {ma mb me mo mi : Nv → M D} {pos p2 tpos : Pos} {es : List Expr} {mr : Nv → M (List D)}
theorem getL_ok {K : PySem.W.Frag} {mg : Str → Option Value} {G : Hp} {ψ : List Addr} {S : Sto} {H : Hp} (R : Rep K mg G ψ S H) {d1 d2 d : D} {o i : V} (r1 : DV K G ψ d1 o) (r2 : DV K G ψ d2 i) (e : getL S d1 d2 = some d) :
    ∃ p xs k v, o = .ref p ∧ i = .int k ∧ SqL K H p xs ∧ L2.atI xs k = some v ∧ DV K G ψ d v := by
  unfold getL at e
  split at e
  · rename_i n kk
    cases r1 with
    | @ref _ a ha =>
      cases r2
      split at e
      · rename_i xs q
        obtain ⟨ws, g, hv, z, t⟩ := R.list ha q
        obtain ⟨v, hv', dv⟩ := t.atI e
        exact ⟨a, ws, kk, v, rfl, rfl, SqL.of hv, hv', dv⟩
      · cases e
  · cases e
/-- o[i] = e as a target -/
def gSb (mo mi : Nv → M D) : TMd := fun d ρ S => match mo ρ S with
  | .ok o S1 => (match mi ρ S1 with
    | .ok i S2 => (setL S2 o i d).map fun S' => (ρ, S')
    | _ => none)
  | _ => none
theorem dg_sub (ho : DE X W0 o mo) (hi : DE X W0 i mi)
    (ha : ∀ v, assign (.Subscript o i pos) X.env v = (do
      let ov ← holding [v] (eval o X.env)
      let iv ← holding [v, ov] (eval i X.env)
      standAt pos
      holding [v, ov, iv] (setItem ov iv v)
      release [v, ov, iv] []) := by intro _; rfl) : DG X (.Subscript o i pos) (gSb mo mi) := by
  refine ⟨PGimp (pg_sub ho.pe hi.pe pset_ok ha) ?_⟩
  rintro v σ H Q ⟨G, ψ, S, ρ, d, ρ', S', R, E, dv, e, k⟩
  unfold gSb at e
  refine ⟨G, ψ, S, ρ, R, E, ?_⟩
  cases q1 : mo ρ S with
  | ex c fs S1 => rw [q1] at e; cases e
  | bad => rw [q1] at e; cases e
  | ok ov S1 =>
    rw [q1] at e
    dsimp only at e
    intro G1 ψ1 H1 X1 R1 vo dvo
    refine ⟨G1, ψ1, S1, ρ, R1, E.up X1, ?_⟩
    cases q2 : mi ρ S1 with
    | ex c fs S2 => rw [q2] at e; cases e
    | bad => rw [q2] at e; cases e
    | ok iv S2 =>
      rw [q2] at e
      dsimp only at e
      intro G2 ψ2 H2 X2 R2 vi dvi
      cases q3 : setL S2 ov iv d with
      | none => rw [q3] at e; cases e
      | some S3 =>
        rw [q3] at e
        cases e
        exact ⟨G2, ψ2, S2, ov, iv, d, S', R2, X2.dv dvo, dvi, X2.dv (X1.dv dv), q3, fun H' x R' => k _ _ _ _ ((X1.trans X2).trans x) R' (((E.up X1).up X2).up x)⟩
/-- o[i] op= e -/
def putS (o i z : D) : M D := fun S => match setL S o i z with | some S' => .ok .non S' | none => .bad
def sAuS (f : F2) (mo mi me : Nv → M D) : SM := sB (fun ρ => bnd (mo ρ) fun o => bnd (mi ρ) fun i => bnd (ask fun S => getL S o i) fun x => bnd (me ρ) fun y => bnd (ask fun S => f S x y) fun z => putS o i z) fun _ => sNx
theorem ds_augS {op : Operator} {f : F2} (hf : OpD X (inplaceOp op) f) (ho : DE X W o mo) (hi : DE X W i mi) (he : DE X W e me)
    (ha : ∀ ov iv new, augStore i ov iv new = (do holding [new, ov, iv] (setItem ov iv new); release [new, ov, iv] []; pure .next) := by intros; rfl) : DS X W (.AugAssign (.Subscript o i tpos) op e pos) (sAuS f mo mi me) := by
  refine ⟨PSimp (ps_augS ho.pe hi.pe pget_list he.pe hf pset_ok ha) ?_⟩
  rintro D σ H ⟨G, ψ, S, ρ, R, E, F⟩
  have F0 := FinS.sB (q := fun _ S' G' ψ' H' => D.nx σ H') F E fun d S1 G1 ψ1 H1 y R1 F1 => F1 _ _ _ _ Ext.refl R1 (E.up y)
  refine ⟨G, ψ, S, ρ, R, E, F0.bnd fun od S1 G1 ψ1 H1 X1 R1 F1 vo dvo => ⟨G1, ψ1, S1, ρ, R1, E.up X1, F1.bnd fun id S2 G2 ψ2 H2 X2 R2 F2 vi dvi => ?_⟩⟩
  obtain ⟨x, ex, F3⟩ := F2.askB
  obtain ⟨p, xs, k, v, rfl, rfl, hq, hat, dvx⟩ := getL_ok R2 (X2.dv dvo) dvi ex
  refine ⟨p, xs, k, v, rfl, rfl, hq, hat, G2, ψ2, S2, ρ, R2, (E.up X1).up X2, F3.bnd fun yd S3 G3 ψ3 H3 X3 R3 F4 vy dvy => ?_⟩
  obtain ⟨z, ez, F5⟩ := F4.askB
  refine ⟨G3, ψ3, S3, x, yd, z, R3, X3.dv dvx, dvy, ez, fun G' H' w X' R' dvz => ?_⟩
  unfold putS at F5
  cases q : setL S3 od id z with
  | none => rw [q] at F5; exact F5.elim
  | some S4 =>
    rw [q] at F5
    exact ⟨G', ψ3, S3, od, id, z, S4, R', X'.dv (X3.dv (X2.dv dvo)), X'.dv (X3.dv dvi), dvz, q, fun H4 x R4 => F5 _ _ _ (X'.trans x) R4⟩

/-! ### instances of own classes -/
def ClsA (X : Cx) (c f : Str) : Prop := ∃ C, X.mg c = some (.ref C) ∧ Cls X.K C ∧ NoAttr X.K C f
def fldD (cs : List Str) (f : Str) (S : Sto) (r : D) : Option D := match r with
  | .ref n => (match S[n]? with | some (.ins c fs) => if c ∈ cs then fs.lookup f else none | _ => none)
  | _ => none
def eFl (cs : List Str) (f : Str) (mo : Nv → M D) : Nv → M D := fun ρ => bnd (mo ρ) fun r => ask fun S => fldD cs f S r
theorem Rep.insOf {K : PySem.W.Frag} {mg : Str → Option Value} {G : Hp} {ψ : List Addr} {S : Sto} {H : Hp} (R : Rep K mg G ψ S H) {n : Nat} {a : Addr} {c : Str} {fs : List (Str × D)} (ha : ψ[n]? = some a) (e : S[n]? = some (.ins c fs)) :
    ∃ C dx vfs, mg c = some (.ref C) ∧ G a = none ∧ H a = some (.ins C dx vfs) ∧ FVs K G ψ fs vfs := by
  obtain ⟨a', ha', g, C, dx, vfs, hm, hv, r⟩ := R.sto n _ e
  rw [ha] at ha'; cases ha'
  exact ⟨C, dx, vfs, hm, g, hv, r⟩
theorem fldD_ok {cs : List Str} {f : Str} (hcs : ∀ c ∈ cs, ClsA X c f) {G : Hp} {ψ : List Addr} {S : Sto} {H : Hp} (R : Rep X.K X.mg G ψ S H) {r d : D} {v : V} (dv : DV X.K G ψ r v) (e : fldD cs f S r = some d) :
    ∃ a C dx fs u, v = .ref a ∧ H a = some (.ins C dx fs) ∧ Cls X.K C ∧ NoAttr X.K C f ∧ fs.lookup f = some u ∧ DV X.K G ψ d u ∧ ∃ c ∈ cs, X.mg c = some (.ref C) := by
  unfold fldD at e
  split at e
  · rename_i n
    cases dv with
    | @ref _ a ha =>
      split at e
      · rename_i c fs q
        split at e
        · rename_i hc
          obtain ⟨C, dx, vfs, hm, g, hv, r⟩ := R.insOf ha q
          obtain ⟨C', hm', cl, na⟩ := hcs c hc
          rw [hm] at hm'; cases hm'
          obtain ⟨u, hu, du⟩ := r.lookup e
          exact ⟨a, C, dx, vfs, u, rfl, hv, cl, na, hu, du, c, hc, hm⟩
        · cases e
      · cases e
  · cases e
theorem de_fld {f : Str} (cs : List Str) (hcs : ∀ c ∈ cs, ClsA X c f) (ho : DE X W o mo) (hb : attributeBase o f X.env (eval o X.env) = eval o X.env := by rfl) : DE X W (.Attribute o f pos) (eFl cs f mo) := by
  refine ⟨PEimp (pe_fld ho.pe hb) ?_⟩
  rintro σ H Q ⟨G, ψ, S, ρ, R, E, F⟩
  refine ⟨G, ψ, S, ρ, R, E, F.bnd fun r S1 G1 ψ1 H1 X1 R1 F1 v dv => ?_⟩
  obtain ⟨d, e, F2⟩ := F1.ask
  obtain ⟨a, C, dx, fs, u, rfl, hv, cl, na, hu, du, _⟩ := fldD_ok hcs R1 dv e
  exact ⟨a, C, dx, fs, u, rfl, hv, cl, na, hu, F2.done Ext.refl R1 u du⟩
/-- o.f = d -/
def setF (cs : List Str) (f : Str) (S : Sto) (r d : D) : Option Sto := match r with
  | .ref n => (match S[n]? with | some (.ins c fs) => if c ∈ cs ∧ fs.length < 1000 then some (S.set n (.ins c (putD f d fs))) else none | _ => none)
  | _ => none
theorem setF_ok {cs : List Str} {f : Str} (hcs : ∀ c ∈ cs, ClsA X c f) {G : Hp} {ψ : List Addr} {S S' : Sto} {H : Hp} (R : Rep X.K X.mg G ψ S H) {r d : D} {v u : V} (dv : DV X.K G ψ r v) (du : DV X.K G ψ d u) (e : setF cs f S r d = some S') :
    ∃ a C dx fs, v = .ref a ∧ H a = some (.ins C dx fs) ∧ Cls X.K C ∧ NoAttr X.K C f ∧ fs.length < 1000 ∧ Ext G ψ H G ψ (upd H a (.ins C dx (putF f u fs))) ∧ Rep X.K X.mg G ψ S' (upd H a (.ins C dx (putF f u fs))) ∧ ∃ c ∈ cs, X.mg c = some (.ref C) := by
  unfold setF at e
  split at e
  · rename_i n
    cases dv with
    | @ref _ a ha =>
      split at e
      · rename_i c fs q
        split at e
        · rename_i hc
          cases e
          obtain ⟨C, dx, vfs, hm, g, hv, r⟩ := R.insOf ha q
          obtain ⟨C', hm', cl, na⟩ := hcs c hc.1
          rw [hm] at hm'; cases hm'
          exact ⟨a, C, dx, vfs, rfl, hv, cl, na, by rw [← r.length]; exact hc.2, Ext.write ha, R.write ha g ⟨C, dx, _, hm, upd_same, r.put du⟩, c, hc.1, hm⟩
        · cases e
      · cases e
  · cases e
theorem pg_attr {f : Str} {ta : TE} (ho : PE X o ta) : PG X (.Attribute o f pos) (fun v σ H Q => ta σ H fun x H1 => ∃ a C dx fs, x = .ref a ∧ H1 a = some (.ins C dx fs) ∧ Cls X.K C ∧ NoAttr X.K C f ∧ fs.length < 1000 ∧ Q σ (upd H1 a (.ins C dx (putF f v fs)))) := by
  refine ⟨fun pins s σ H v u Q I r h => ?_⟩
  show wpAny _ _ (do
      let ov ← holding [u] (eval o X.env)
      standAt pos.atName
      holding [u, ov] (setAttr ov f u)
      release [u, ov] []) _ _ _
  refine wpAny_bind (wpAny_holding (thn (ho.run pins s σ H _ I h) fun ov s1 ⟨x, H1, I1, r1, a, C, dx, fs, ex, ea, c, n, l, q⟩ => ?_))
  subst ex
  obtain rfl : ov = Value.ref a := r1
  refine wpAny_bind (wpAny_standAt (wpAny_bind (wpAny_holding (setattr_ok I1 ea c n l r fun s3 I3 => ?_))))
  exact wpAny_release ⟨σ, _, I3, q⟩
def gFl (cs : List Str) (f : Str) (mo : Nv → M D) : TMd := fun d ρ S => match mo ρ S with
  | .ok o S1 => (setF cs f S1 o d).map fun S' => (ρ, S')
  | _ => none
theorem dg_fld {f : Str} (cs : List Str) (hcs : ∀ c ∈ cs, ClsA X c f) (ho : DE X W0 o mo) : DG X (.Attribute o f pos) (gFl cs f mo) := by
  refine ⟨PGimp (pg_attr ho.pe) ?_⟩
  rintro v σ H Q ⟨G, ψ, S, ρ, d, ρ', S', R, E, dv, e, k⟩
  unfold gFl at e
  refine ⟨G, ψ, S, ρ, R, E, ?_⟩
  cases q1 : mo ρ S with
  | ex c fs S1 => rw [q1] at e; cases e
  | bad => rw [q1] at e; cases e
  | ok ov S1 =>
    rw [q1] at e
    dsimp only at e
    intro G1 ψ1 H1 X1 R1 vo dvo
    cases q3 : setF cs f S1 ov d with
    | none => rw [q3] at e; cases e
    | some S3 =>
      rw [q3] at e
      cases e
      obtain ⟨a, C, dx, fs, rfl, hv, cl, na, hl, x, R3, _⟩ := setF_ok hcs R1 dvo (X1.dv dv) q3
      exact ⟨a, C, dx, fs, rfl, hv, cl, na, hl, k _ _ _ _ (X1.trans x) R3 ((E.up X1).up x)⟩
/-- o.f = e -/
def sFl (cs : List Str) (f : Str) (mo me : Nv → M D) : SM := sB (fun ρ => bnd (me ρ) fun d => bnd (mo ρ) fun r => fun S => match setF cs f S r d with | some S' => .ok D.non S' | none => .bad) fun _ => sNx
theorem ds_fld {f : Str} {pos' : Pos} (cs : List Str) (hcs : ∀ c ∈ cs, ClsA X c f) (ho : DE X W o mo) (he : DE X W e me) (hs : swapsWith e (some (.Attribute o f pos')) pos.line X.env = pure false := by rfl) : DS X W (.Assign [.Attribute o f pos'] e pos) (sFl cs f mo me) := by
  refine ⟨PSimp (ps_fld ho.pe he.pe hs) ?_⟩
  rintro D σ H ⟨G, ψ, S, ρ, R, E, F⟩
  have F0 := FinS.sB (q := fun _ S' G' ψ' H' => D.nx σ H') F E fun d S1 G1 ψ1 H1 y R1 F1 => F1 _ _ _ _ Ext.refl R1 (E.up y)
  refine ⟨G, ψ, S, ρ, R, E, F0.bnd fun d S1 G1 ψ1 H1 X1 R1 F1 v dv => ⟨G1, ψ1, S1, ρ, R1, E.up X1, F1.bnd fun r S2 G2 ψ2 H2 X2 R2 F2 u du => ?_⟩⟩
  cases q : setF cs f S2 r d with
  | none => rw [q] at F2; exact F2.elim
  | some S3 =>
    rw [q] at F2
    obtain ⟨a, C, dx, fs, rfl, hv, cl, na, hl, x, R3, _⟩ := setF_ok hcs R2 du (X2.dv dv) q
    exact ⟨a, C, dx, fs, rfl, hv, cl, na, hl, F2 _ _ _ x R3⟩
/-- o.f op= e -/
def clsD (cs : List Str) (S : Sto) (r : D) : Option Str := match r with
  | .ref n => (match S[n]? with | some (.ins c _) => if c ∈ cs then some c else none | _ => none)
  | _ => none
theorem clsD_mem {cs : List Str} {S : Sto} {r : D} {c : Str} (e : clsD cs S r = some c) : c ∈ cs := by
  unfold clsD at e
  split at e
  · split at e
    · split at e
      · cases e; assumption
      · cases e
    · cases e
  · cases e
def sAuF (cs : List Str) (f : Str) (g : F2) (mo me : Nv → M D) : SM := sB (fun ρ => bnd (mo ρ) fun r => bnd (ask fun S => clsD cs S r) fun c => bnd (ask fun S => fldD [c] f S r) fun x => bnd (me ρ) fun y => bnd (ask fun S => g S x y) fun z => fun S => match setF [c] f S r z with | some S' => .ok D.non S' | none => .bad) fun _ => sNx
theorem ds_augF {f : Str} {op : Operator} {g : F2} (cs : List Str) (hcs : ∀ c ∈ cs, ClsA X c f) (hg : OpD X (inplaceOp op) g) (ho : DE X W o mo) (he : DE X W e me) : DS X W (.AugAssign (.Attribute o f tpos) op e pos) (sAuF cs f g mo me) := by
  refine ⟨PSimp (ps_fldaug ho.pe he.pe hg) ?_⟩
  rintro D σ H ⟨G, ψ, S, ρ, R, E, F⟩
  have F0 := FinS.sB (q := fun _ S' G' ψ' H' => D.nx σ H') F E fun d S1 G1 ψ1 H1 y R1 F1 => F1 _ _ _ _ Ext.refl R1 (E.up y)
  refine ⟨G, ψ, S, ρ, R, E, F0.bnd fun r S1 G1 ψ1 H1 X1 R1 F1 v dv => ?_⟩
  obtain ⟨c, ec, F1'⟩ := F1.askB
  have hcm := clsD_mem ec
  have hcs' : ∀ c' ∈ [c], ClsA X c' f := fun c' h => by
    rw [List.mem_singleton] at h
    subst h
    exact hcs _ hcm
  obtain ⟨x, ex, F2⟩ := F1'.askB
  obtain ⟨a, C, dx, fs, u, rfl, hv, cl, na, hu, du, c1, h1, m1⟩ := fldD_ok hcs' R1 dv ex
  refine ⟨a, C, dx, fs, u, rfl, hv, cl, na, hu, G1, ψ1, S1, ρ, R1, E.up X1, F2.bnd fun y S2 G2 ψ2 H2 X2 R2 F3 vy dvy => ?_⟩
  obtain ⟨z, ez, F4⟩ := F3.askB
  refine ⟨G2, ψ2, S2, x, y, z, R2, X2.dv du, dvy, ez, fun G' H' w X' R' dvz => ?_⟩
  cases q : setF [c] f S2 r z with
  | none => rw [q] at F4; exact F4.elim
  | some S3 =>
    rw [q] at F4
    obtain ⟨a', C', dx', fs', e1, hv', cl', na', hl', x', R3, c2, h2, m2⟩ := setF_ok hcs' R' (X'.dv (X2.dv dv)) dvz q
    cases e1
    rw [List.mem_singleton] at h1 h2
    subst h1
    subst h2
    rw [m1] at m2
    cases m2
    exact ⟨dx', fs', hv', hl', F4 _ _ _ (X'.trans x') R3⟩
end
end Nt

namespace Nt
open PySem PySem.Spec L2
open PyProof.Rows hiding St

section
variable {X : Cx} {CX : CXT} {k : Nat} {f C : Addr} {fd : FuncData} {ps : List Str} {sp : Sp} {dvs : List V} {ds : List Value} {E : St → XK} {x m : Str} {p pos apos : Pos} {e o : Expr} {es : List Expr} {ta : TE} {t : TA}
def tMethSD (C : Addr) (m : Str) (sp : Sp) (dvs : List V) (E : St → XK) (ta : TE) (t : TA) : TE := fun σ H Q => ta σ H fun x H1 => ∃ a dx fs, x = .ref a ∧ H1 a = some (.ins C dx fs) ∧ fs.lookup m = none ∧
  t σ H1 fun vs H2 => sp (x :: (vs ++ dvs)) H2 Q (E σ)
def tMakeSD (C : Addr) (sp : Sp) (dvs : List V) (E : St → XK) (t : TA) : TE := fun σ H Q => t σ H fun vs H1 => ∀ x dx, H1 x = none → H1 dx = none → dx ≠ x →
  sp (.ref x :: (vs ++ dvs)) (upd (upd H1 dx (.own x)) x (.ins C dx [])) (fun v H2 => v = .non ∧ Q (.ref x) H2) (E σ)
theorem pe_methSD {pl : Sem Bool} (he : PE X o ta) (c : Cls X.K C) (hm : Meth X.K C m f) (F : FnOk X.prog X.w X.K X.mg X.base CX k f fd ps sp) (hr : Room k X.A) (hb : Binds X.K fd ps ds) (hd : Vals dvs ds) (hx : ∀ σ, PassesAt CX X σ (E σ)) (ha : PA X (e :: es) t)
    (hst : starEach (e :: es) X.env = (false, eval e X.env) :: starEach es X.env := by rfl) (hpl : (backTo pos (starEach es X.env)).any (·.1) = false := by rfl)
    (ht : eval (.Call (.Attribute o m apos) (e :: es) [] pos) X.env = (do
      let ov ← eval o X.env
      standAt apos.atName
      let (f, first) ← holding [ov] (getMethod ov m pl)
      callWith pos f first (backTo pos (starEach (e :: es) X.env)) (backToKw pos (keywordEach [] X.env))) := by rfl) :
    PE X (.Call (.Attribute o m apos) (e :: es) [] pos) (tMethSD C m sp dvs E ta t) := by
  refine ⟨fun pins s σ H Q I h => ?_⟩
  refine PySem.W.methodCall_KW (pl := pl) (thn (he.run pins s σ H _ I h) fun u s1 ⟨x, H1, I1, rx, a, dx, fs, ex, ea, l, q⟩ => ?_) ht
  subst ex
  obtain rfl : u = Value.ref a := rx
  refine getmeth_ok I1 ea c hm l ?_
  refine PySem.W.callWith_K (first := [.ref a]) (h₀ := X.base) I.ok.mod.kin hm.kp (thn (ha.run pos pins s1 σ H1 _ I1 q) fun us s2 ⟨vs, H2, I2, r, q2⟩ => ⟨I2.kIn, ?_⟩) hst hpl
  exact run_fnSD (us := .ref a :: us) (vs := .ref a :: vs) F hr hb hd (hx σ) I2 (.cons rfl r) q2
theorem pe_methSD0 {pl : Sem Bool} (he : PE X o ta) (c : Cls X.K C) (hm : Meth X.K C m f) (F : FnOk X.prog X.w X.K X.mg X.base CX k f fd ps sp) (hr : Room k X.A) (hb : Binds X.K fd ps ds) (hd : Vals dvs ds) (hx : ∀ σ, PassesAt CX X σ (E σ))
    (ht : eval (.Call (.Attribute o m apos) [] [] pos) X.env = (do
      let ov ← eval o X.env
      standAt apos.atName
      let (f, first) ← holding [ov] (getMethod ov m pl)
      callWith pos f first (backTo pos (starEach [] X.env)) (backToKw pos (keywordEach [] X.env))) := by rfl) :
    PE X (.Call (.Attribute o m apos) [] [] pos) (tMethSD C m sp dvs E ta tNil) := by
  refine ⟨fun pins s σ H Q I h => ?_⟩
  refine PySem.W.methodCall_KW (pl := pl) (thn (he.run pins s σ H _ I h) fun u s1 ⟨x, H1, I1, rx, a, dx, fs, ex, ea, l, q⟩ => ?_) ht
  subst ex
  obtain rfl : u = Value.ref a := rx
  refine getmeth_ok I1 ea c hm l ?_
  exact PySem.W.callWith_K0 (first := [.ref a]) I1.kIn hm.kp (run_fnSD (us := [.ref a]) (vs := [.ref a]) F hr hb hd (hx σ) I1 (.cons rfl .nil) q)
theorem run_makeSD {pins : List (Addr × Obj)} {σ : St} {H : Hp} {s : Shared} {Q : VK} {us : List Value} {vs : List V} (M : Mk X.K C f) (F : FnOk X.prog X.w X.K X.mg X.base CX k f fd ps sp) (hr : Room (k + 1) X.A) (hb : Binds X.K fd ps ds) (hd : Vals dvs ds)
    (hx : PassesAt CX X σ (E σ)) (I : Inv X pins σ H s) (r : Vals vs us)
    (h : ∀ x dx, H x = none → H dx = none → dx ≠ x → sp (.ref x :: (vs ++ dvs)) (upd (upd H dx (.own x)) x (.ins C dx [])) (fun v H2 => v = .non ∧ Q (.ref x) H2) (E σ)) :
    wpAny (model X.prog X.w) X.A (call (.ref C) us) (EP X pins σ Q) X.xe s := by
  have hq := h (s.heap.objs.size + 1) s.heap.objs.size (I.hok.fresh (Nat.le_succ _)) (I.hok.fresh (Nat.le_refl _)) (Nat.ne_of_lt (Nat.lt_succ_self _))
  have I2 := Inv.made (C := C) I
  have r2 : Vals (V.ref (s.heap.objs.size + 1) :: (vs ++ dvs)) (Value.ref (s.heap.objs.size + 1) :: (us ++ ds)) := .cons rfl (r.append hd)
  have hl : (Value.ref (s.heap.objs.size + 1) :: us ++ ds).length = ps.length := by
    have e := r2.length
    rw [F.len _ _ _ _ hq] at e
    exact e.symm
  refine wpAny_call (make_map (f := f) I.kIn M.makes M.init (beq_iff_eq.mp M.fn) (codeAny_mono (F.run _ X.stack _ _ ⟨Value.ref (s.heap.objs.size + 1) :: us, []⟩ (Value.ref (s.heap.objs.size + 1) :: (us ++ ds)) _ _ (E σ) (hr.make C us [])
    (I2.env0.make C us []) (hb _ (Value.ref (s.heap.objs.size + 1) :: us) I2.kIn hl) r2 hq) fun r s' hq' => ?_))
  cases r with
  | error e => exact hx pins _ _ e s' I2 hq'
  | ok fl =>
    cases fl with
    | ret u =>
      obtain ⟨v, H', I3, rv, ev, q3⟩ := I2.after hq'
      subst ev
      exact ⟨rv, ⟨V.ref (s.heap.objs.size + 1), H', I3, rfl, q3⟩⟩
    | next => exact False.elim hq'
    | brk => exact False.elim hq'
    | cont => exact False.elim hq'
theorem pe_makeSD (M : Mk X.K C f) (F : FnOk X.prog X.w X.K X.mg X.base CX k f fd ps sp) (hr : Room (k + 1) X.A) (hg : Gl X x) (hm : X.mg x = some (.ref C)) (hb : Binds X.K fd ps ds) (hd : Vals dvs ds) (hx : ∀ σ, PassesAt CX X σ (E σ))
    (ha : PA X (e :: es) t) (hdb : (x == ("__debug__" : Str)) = false := by decide) (he : starEach (e :: es) X.env = (false, eval e X.env) :: starEach es X.env := by rfl) (hpl : (backTo pos (starEach es X.env)).any (·.1) = false := by rfl) :
    PE X (.Call (.Name x p) (e :: es) [] pos) (tMakeSD C sp dvs E t) := by
  refine ⟨fun pins s σ H Q I h => ?_⟩
  refine wpAny_Call_Name_kw (ld_glob I hg hm ?_ hdb)
  refine PySem.W.callWith_K (h₀ := X.base) I.ok.mod.kin M.kp (thn (ha.run pos pins s σ H _ I h) fun us s1 ⟨vs, H1, I1, r, q⟩ => ⟨I1.kIn, ?_⟩) he hpl
  exact run_makeSD M F hr hb hd (hx σ) I1 r q
theorem pe_makeSD0 (M : Mk X.K C f) (F : FnOk X.prog X.w X.K X.mg X.base CX k f fd ps sp) (hr : Room (k + 1) X.A) (hg : Gl X x) (hm : X.mg x = some (.ref C)) (hb : Binds X.K fd ps ds) (hd : Vals dvs ds) (hx : ∀ σ, PassesAt CX X σ (E σ))
    (hdb : (x == ("__debug__" : Str)) = false := by decide) : PE X (.Call (.Name x p) [] [] pos) (tMakeSD C sp dvs E tNil) := by
  refine ⟨fun pins s σ H Q I h => ?_⟩
  refine wpAny_Call_Name_kw (ld_glob I hg hm ?_ hdb)
  exact PySem.W.callWith_K0 I.kIn M.kp (run_makeSD (us := []) M F hr hb hd (hx σ) I .nil h)
theorem pe_callSD0 (F : FnOk X.prog X.w X.K X.mg X.base CX k f fd ps sp) (hr : Room k X.A) (hg : Gl X x) (hm : X.mg x = some (.ref f)) (hk : PySem.W.keepIn X.K (.ref f) = true) (hb : Binds X.K fd ps ds) (hd : Vals dvs ds) (hx : ∀ σ, PassesAt CX X σ (E σ))
    (hdb : (x == ("__debug__" : Str)) = false := by decide) : PE X (.Call (.Name x p) [] [] pos) (tCallSD sp dvs E tNil) := by
  refine ⟨fun pins s σ H Q I h => ?_⟩
  refine wpAny_Call_Name_kw (ld_glob I hg hm ?_ hdb)
  exact PySem.W.callWith_K0 I.kIn hk (run_fnSD (us := []) F hr hb hd (hx σ) I .nil h)
end

/-! ### o.m(..) over data -/
/-- a method as a caller needs it -/
structure DM (P : Program) (w : World) (K : PySem.W.Frag) (mg : Str → Option Value) (base : Heap) (k : Nat) (c m : Str) (ps : List Str) (f : List D → M D) : Prop where
  ex : ∃ (C fa : Addr) (fd : FuncData), mg c = some (.ref C) ∧ Cls K C ∧ Meth K C m fa ∧ Binds K fd ps [] ∧ FnOk P w K mg base (L2.CX P w) k fa fd ps (spD K mg ps.length f)
/-- C(..) as a caller needs it -/
structure DC (P : Program) (w : World) (K : PySem.W.Frag) (mg : Str → Option Value) (base : Heap) (k : Nat) (c : Str) (ps : List Str) (f : List D → M D) : Prop where
  ex : ∃ (C fa : Addr) (fd : FuncData), mg c = some (.ref C) ∧ Mk K C fa ∧ Binds K fd ps [] ∧ FnOk P w K mg base (L2.CX P w) k fa fd ps (spD K mg ps.length f)
def isOf (c m : Str) (S : Sto) (r : D) : Option D := match r with
  | .ref n => (match S[n]? with | some (.ins c' fs) => if c' = c ∧ fs.lookup m = none then some (.ref n) else none | _ => none)
  | _ => none
def eMe (c m : Str) (np : Nat) (f : List D → M D) (mo : Nv → M D) (ma : Nv → M (List D)) : Nv → M D := fun ρ => bnd (mo ρ) fun r => bnd (ask fun S => isOf c m S r) fun r => bnd (ma ρ) fun ds => if ds.length + 1 = np then f (r :: ds) else bad
def eMk (c : Str) (np : Nat) (f : List D → M D) (ma : Nv → M (List D)) : Nv → M D := fun ρ => bnd (ma ρ) fun ds S => if ds.length + 1 = np then (match f (.ref S.length :: ds) (S ++ [.ins c []]) with
  | .ok .non S' => .ok (.ref S.length) S'
  | .ex c fs S' => .ex c fs S'
  | _ => .bad) else .bad
section
variable {X : Cx} {W : WX} {a b e o i : Expr} {ma mb me mo mi : Nv → M D} {pos apos p : Pos} {es : List Expr} {mr : Nv → M (List D)} {c m : Str} {ps : List Str} {f : List D → M D} {j k : Nat}
theorem isOf_ok {G : Hp} {ψ : List Addr} {S : Sto} {H : Hp} (R : Rep X.K X.mg G ψ S H) {r r' : D} {v : V} {C : Addr} (hm : X.mg c = some (.ref C)) (dv : DV X.K G ψ r v) (e : isOf c m S r = some r') :
    ∃ a dx fs, v = .ref a ∧ H a = some (.ins C dx fs) ∧ fs.lookup m = none ∧ r' = r := by
  unfold isOf at e
  split at e
  · rename_i n
    cases dv with
    | @ref _ a ha =>
      split at e
      · rename_i c' fs q
        split at e
        · rename_i hc
          obtain ⟨rfl, hl⟩ := hc
          cases e
          obtain ⟨C', dx, vfs, hm', g, hv, r⟩ := R.insOf ha q
          rw [hm] at hm'; cases hm'
          exact ⟨a, dx, vfs, rfl, hv, r.none hl, rfl⟩
        · cases e
      · cases e
  · cases e
theorem meFin {C : Addr} {np : Nat} (hm : X.mg c = some (.ref C)) {σ : St} {H : Hp} {Q : VK} (h : tE X.K X.mg W (eMe c m np f mo mr) σ H Q) :
    tMethSD C m (spD X.K X.mg np f) [] (fun σ c d H' => W c d σ H') (tE X.K X.mg W mo) (tAr X.K X.mg W mr) σ H Q := by
  obtain ⟨G, ψ, S, ρ, R, E, F⟩ := h
  refine ⟨G, ψ, S, ρ, R, E, F.bnd fun r S1 G1 ψ1 H1 X1 R1 F1 v dv => ?_⟩
  obtain ⟨r', e, F2⟩ := F1.askB
  obtain ⟨a, dx, fs, rfl, hv, hl, rfl⟩ := isOf_ok R1 hm dv e
  refine ⟨a, dx, fs, rfl, hv, hl, G1, ψ1, S1, ρ, R1, E.up X1, F2.bnd fun ds S2 G2 ψ2 H2 X2 R2 F3 vs dvs => ?_⟩
  show spD X.K X.mg np f (V.ref a :: (vs ++ [])) H2 Q _
  rw [List.append_nil]
  by_cases hl : ds.length + 1 = np
  · rw [if_pos hl] at F3; exact ⟨by rw [List.length_cons, ← dvs.length]; exact hl, G2, ψ2, S2, _, R2, .cons (X2.dv dv) dvs, F3⟩
  · rw [if_neg hl] at F3; exact F3.elim
theorem de_me {pl : Sem Bool} (d : DM X.prog X.w X.K X.mg X.base j c m ps f) (tk : Takes X W) (hr : Room k X.A) (hk : j ≤ k) (ho : DE X W o mo) (ha : DA X W (a :: es) mr)
    (he : starEach (a :: es) X.env = (false, eval a X.env) :: starEach es X.env := by rfl) (hpl : (backTo pos (starEach es X.env)).any (·.1) = false := by rfl)
    (ht : eval (.Call (.Attribute o m apos) (a :: es) [] pos) X.env = (do
      let ov ← eval o X.env
      standAt apos.atName
      let (f, first) ← holding [ov] (getMethod ov m pl)
      callWith pos f first (backTo pos (starEach (a :: es) X.env)) (backToKw pos (keywordEach [] X.env))) := by rfl) : DE X W (.Call (.Attribute o m apos) (a :: es) [] pos) (eMe c m ps.length f mo mr) := by
  obtain ⟨C, fa, fd, hm, cl, me, b, F⟩ := d.ex
  exact ⟨PEimp (pe_methSD (pl := pl) ho.pe cl me F (hr.mono hk) b .nil (E := fun σ c d H' => W c d σ H') (fun σ => passAt tk σ) ha.pa he hpl ht) fun σ H Q h => meFin hm h⟩
theorem de_me0 {pl : Sem Bool} (d : DM X.prog X.w X.K X.mg X.base j c m ps f) (tk : Takes X W) (hr : Room k X.A) (hk : j ≤ k) (ho : DE X W o mo)
    (ht : eval (.Call (.Attribute o m apos) [] [] pos) X.env = (do
      let ov ← eval o X.env
      standAt apos.atName
      let (f, first) ← holding [ov] (getMethod ov m pl)
      callWith pos f first (backTo pos (starEach [] X.env)) (backToKw pos (keywordEach [] X.env))) := by rfl) : DE X W (.Call (.Attribute o m apos) [] [] pos) (eMe c m ps.length f mo aNil) := by
  obtain ⟨C, fa, fd, hm, cl, me, b, F⟩ := d.ex
  refine ⟨PEimp (pe_methSD0 (pl := pl) ho.pe cl me F (hr.mono hk) b .nil (E := fun σ c d H' => W c d σ H') (fun σ => passAt tk σ) ht) fun σ H Q h => ?_⟩
  obtain ⟨G, ψ, S, ρ, R, E, F⟩ := h
  refine ⟨G, ψ, S, ρ, R, E, F.bnd fun r S1 G1 ψ1 H1 X1 R1 F1 v dv => ?_⟩
  obtain ⟨r', e, F2⟩ := F1.askB
  obtain ⟨a, dx, fs, rfl, hv, hl, rfl⟩ := isOf_ok R1 hm dv e
  refine ⟨a, dx, fs, rfl, hv, hl, ?_⟩
  show spD _ _ _ _ _ _ _ _
  dsimp only [Nt.bnd, aNil, ret] at F2
  by_cases hl : ([] : List D).length + 1 = ps.length
  · rw [if_pos hl] at F2; exact ⟨hl, G1, ψ1, S1, _, R1, .cons dv .nil, F2⟩
  · rw [if_neg hl] at F2; exact F2.elim
theorem makeFin {C : Addr} {np : Nat} (hm : X.mg c = some (.ref C)) {σ : St} {H : Hp} {Q : VK} (h : tE X.K X.mg W (eMk c np f mr) σ H Q) :
    tMakeSD C (spD X.K X.mg np f) [] (fun σ c d H' => W c d σ H') (tAr X.K X.mg W mr) σ H Q := by
  obtain ⟨G, ψ, S, ρ, R, E, F⟩ := h
  refine ⟨G, ψ, S, ρ, R, E, F.bnd fun ds S1 G1 ψ1 H1 X1 R1 F1 vs dvs x dx hx hdx hne => ?_⟩
  rw [List.append_nil]
  by_cases hl : ds.length + 1 = np
  · rw [if_pos hl] at F1
    have R2 := R1.priv (o := .own x) (R1.gfree hdx) (R1.notMem hdx)
    have R3 := R2.priv (o := .ins C dx []) (R1.gfree hx) (R1.notMem hx)
    have R4 := R3.keep (o := .ins c []) (R1.gfree hx) (R1.notMem hx) ⟨C, dx, [], hm, upd_same, .nil⟩
    have pp : ∀ (n : Nat) (a : Addr), ψ1[n]? = some a → (ψ1 ++ [x])[n]? = some a := fun n a e => by
      rw [List.getElem?_append_left (List.getElem?_eq_some_iff.mp e).1]; exact e
    have X4 : Ext G1 ψ1 H1 G1 (ψ1 ++ [x]) (upd (upd H1 dx (.own x)) x (.ins C dx [])) := ⟨Same.refl _, pp, fun a o e g n => by
      have n1 := ne_of_none e hx
      have n2 := ne_of_none e hdx
      exact ⟨by rw [upd_ne n1, upd_ne n2]; exact e, g, by simp; exact ⟨n, n1⟩⟩⟩
    refine ⟨by rw [List.length_cons, ← dvs.length]; exact hl, G1, _, _, _, R4, .cons (.ref (n := S1.length) (by rw [← R1.len]; simp)) (X4.dvs dvs), ?_⟩
    have hnx : (ψ1 ++ [x])[S1.length]? = some x := by rw [← R1.len]; simp
    cases q : f (.ref S1.length :: ds) (S1 ++ [.ins c []]) with
    | bad => rw [q] at F1; exact F1.elim
    | ex c' fs S' => rw [q] at F1; exact fun G2 ψ2 H2 cls d y R' xv => F1 _ _ _ cls d (X4.trans y) R' xv
    | ok d S' =>
      rw [q] at F1
      cases d with
      | non =>
        intro G2 ψ2 H2 y R' v dv
        cases dv
        exact ⟨rfl, F1 _ _ _ (X4.trans y) R' _ (.ref (y.p _ _ hnx))⟩
      | _ => exact F1.elim
  · rw [if_neg hl] at F1; exact F1.elim
theorem de_mk {x : Str} (d : DC X.prog X.w X.K X.mg X.base j x ps f) (tk : Takes X W) (hr : Room k X.A) (hg : Gl X x) (hk : j + 1 ≤ k) (ha : DA X W (a :: es) mr) (hdb : (x == ("__debug__" : Str)) = false := by decide)
    (he : starEach (a :: es) X.env = (false, eval a X.env) :: starEach es X.env := by rfl) (hpl : (backTo pos (starEach es X.env)).any (·.1) = false := by rfl) : DE X W (.Call (.Name x p) (a :: es) [] pos) (eMk x ps.length f mr) := by
  obtain ⟨C, fa, fd, hm, mk, b, F⟩ := d.ex
  exact ⟨PEimp (pe_makeSD mk F (hr.mono hk) hg hm b .nil (E := fun σ c d H' => W c d σ H') (fun σ => passAt tk σ) ha.pa hdb he hpl) fun σ H Q h => makeFin hm h⟩
theorem de_call0 {x : Str} (d : Dn X.prog X.w X.K X.mg X.base j x ps f) (tk : Takes X W) (hr : Room k X.A) (hg : Gl X x) (hk : j ≤ k) (hdb : (x == ("__debug__" : Str)) = false := by decide) : DE X W (.Call (.Name x p) [] [] pos) (eCall ps.length f aNil) := by
  obtain ⟨fa, fd, hm, kp, b, F⟩ := d.ex
  refine ⟨PEimp (pe_callSD0 F (hr.mono hk) hg hm kp b .nil (E := fun σ c d H' => W c d σ H') (fun σ => passAt tk σ) hdb) fun σ H Q h => ?_⟩
  obtain ⟨G, ψ, S, ρ, R, E, F⟩ := h
  show spD _ _ _ _ _ _ _ _
  dsimp only [eCall, Nt.bnd, aNil, ret] at F
  by_cases hl : ([] : List D).length = ps.length
  · rw [if_pos hl] at F; exact ⟨hl, G, ψ, S, _, R, .nil, F⟩
  · rw [if_neg hl] at F; exact F.elim
end
end Nt

namespace Nt
section
open PySem PySem.Calls PyProof.Rows PySem.W PySem.SeqAt
variable {prog : Program} {w : World} {A : Around} {E : Value → Shared → Prop} {s : Shared}
theorem oneLt_tup {xs ys : List PyData} {a b : Value} {as bs : List Addr} {Q : Bool → Shared → Prop} (ra : Reads s.heap a (.tuple xs) as) (rb : Reads s.heap b (.tuple ys) bs) (h : alike (.tuple xs) (.tuple ys) = true)
    (hu : A.units + min (PyData.tuple xs).depth (PyData.tuple ys).depth < cLine) (hq : Q (dataLt (.tuple xs) (.tuple ys)) s) : wpAny (model prog w) A (oneLt' true a b) Q E s := by
  have hal : alikeAll xs ys = true := by simpa [alike] using h
  cases ra with
  | @tuple l o vs n _ as₁ h1 h2 h3 h4 =>
    cases rb with
    | @tuple l' o' vs' n' _ bs₁ k1 k2 k3 k4 =>
      have n1 : vs.size = xs.length := by simpa using ReadsAll.length _ _ _ h4
      have n2 : vs'.size = ys.length := by simpa using ReadsAll.length _ _ _ k4
      rw [dataLt_tuple, ← firstLt_toks xs ys hal, ← n1, ← n2] at hq
      obtain ⟨cls, dd, data, sl⟩ := o
      obtain ⟨cls2, dd2, data2, sl2⟩ := o'
      simp only at h2 h3 k2 k3
      subst h2 h3 k2 k3
      rw [oneLt'_eq]
      simp only [if_true]
      refine wpAny_bind (wpAny_cRoomFor (room_here hu) ?_)
      refine wpAny_bind (wpAny_callSpecialIfBound?_slot (T := "tuple") ⟨_, h1, rfl⟩ F.slot_tuple_lt
        (call_meets F.slot_tuple_lt ⟨_, h1, rfl⟩ F.entry_tuple_lt (F.args_tuple_lt_2 _ _) (tuple_ltAt l l' vs vs' n n' dd dd2 sl sl2 (pairEq xs ys) (fun j => dataLt (xs.getD j .none) (ys.getD j .none)))
          ⟨h1, k1, fun j j1 j2 => ?_, fun j j1 j2 hj => ?_, ?_⟩))
      · have := eqAt_alikeAll xs ys A.in1 s vs.toList vs'.toList _ _ h4 k4 hal (room_in hu) j (by simpa using j1) (by simpa using j2)
        simpa using this
      · have := rcLt_alikeAll xs ys A.in1 s vs.toList vs'.toList _ _ h4 k4 hal (room_in hu) j (by simpa using j1) (by simpa using j2) hj
        simpa using this
      · exact wpAny_truthy_bool hq
theorem mapM_is {α β : Type} {M : Model} {f : α → Sem β} : ∀ {l : List α} {rs : List β} {Q : List β → Shared → Prop}, EachIs (fun v r => ∀ (Q' : β → Shared → Prop), Q' r s → wpAny M A (f v) Q' E s) l rs → Q rs s → wpAny M A (l.mapM f) Q E s
  | _, _, _, .nil, h => by rw [List.mapM_nil]; exact wpAny_pure h
  | x :: l, r :: rs, Q, .cons h1 t, h => by
    rw [List.mapM_cons]
    exact wpAny_bind (h1 _ (wpAny_bind (mapM_is (Q := fun bs s' => wpAny M A (pure (r :: bs)) Q E s') t (wpAny_pure h))))
theorem first_tup {M : Model} {v : Value} {xs : List PyData} {as : List Addr} (r : Reads s.heap v (.tuple xs) as) : ∃ f : Option Value, (xs = [] → f = none) ∧ ∀ (Q' : Option Value → Shared → Prop), Q' f s → wpAny M A (firstOfTuple' v) Q' E s := by
  have l := looks_reads (M := M) r
  cases r with
  | @tuple l o vs n _ as₁ h1 h2 h3 h4 =>
    refine ⟨vs[0]?, fun e => ?_, fun Q' hq => ?_⟩
    · subst e
      have : vs.toList = [] := by cases h : vs.toList with
        | nil => rfl
        | cons a b => rw [h] at h4; cases h4
      rw [← Array.getElem?_toList, this]; rfl
    · rw [kas_first_eq]
      refine wpAny_bind (l.here ?_)
      rw [if_neg (by simp [dataType])]
      exact wpAny_bind (listItems_at h1 h3 (wpAny_pure hq))
theorem firsts_tup {M : Model} : ∀ {vs : List Value} {ds : List PyData}, EachIs (fun v d => ∃ as, Reads s.heap v d as) vs ds → (∀ d ∈ ds, ∃ xs, d = .tuple xs) →
    ∃ rs : List (Option Value), EachIs (fun v r => ∀ (Q' : Option Value → Shared → Prop), Q' r s → wpAny M A (firstOfTuple' v) Q' E s) vs rs ∧ (∀ r, ds = .tuple [] :: r → ∃ q, rs = none :: q)
  | _, _, .nil, _ => ⟨[], .nil, fun _ e => by cases e⟩
  | v :: vs, d :: ds, .cons ⟨as, r⟩ t, h => by
    obtain ⟨rs, h1, _⟩ := firsts_tup t fun d hd => h d (List.mem_cons_of_mem _ hd)
    obtain ⟨xs, rfl⟩ := h d (List.mem_cons_self ..)
    obtain ⟨f, f1, f2⟩ := first_tup r
    exact ⟨f :: rs, .cons f2 h1, fun q e => by
      cases e
      exact ⟨rs, by rw [f1 rfl]⟩⟩
/-- tuples of which the first is () -/
theorem kind_tups {M : Model} {vs : List Value} {ds : List PyData} {Q : SortKind → Shared → Prop} (e : EachIs (fun v d => ∃ as, Reads s.heap v d as) vs (.tuple [] :: ds)) (ht : ∀ d ∈ ds, ∃ xs, d = .tuple xs) (h : Q oneType' s) : wpAny M A (keyKind' vs.toArray) Q E s := by
  have ht' : ∀ d ∈ PyData.tuple [] :: ds, ∃ xs, d = .tuple xs := fun d hd => by
    rcases List.mem_cons.mp hd with rfl | hd
    · exact ⟨_, rfl⟩
    · exact ht d hd
  obtain ⟨rs, r1, r2⟩ := firsts_tup (M := M) (A := A) (E := E) e ht'
  obtain ⟨q, rfl⟩ := r2 _ rfl
  have hT : ∀ v ∈ vs, Looks M s.heap (typeOf v) (Value.type "tuple") := fun v hv => by
    obtain ⟨d, hd, as, r⟩ := e.left v hv
    obtain ⟨xs, rfl⟩ := ht' d hd
    exact looks_reads r
  rw [keyKind'_eq, List.mapM_toArray, map_eq_pure_bind]
  refine wpAny_bind (wpAny_bind (mapM_is r1 (wpAny_pure ?_)))
  rw [if_neg (by simp), if_neg (by simp)]
  rw [oneTypeOnly'_eq, List.mapM_toArray, map_eq_pure_bind]
  refine wpAny_bind (wpAny_bind (wpAny_bind (kas_mapM (r := Value.type "tuple") _ (fun v hv Q' hq => (hT v hv).here hq) (wpAny_pure ?_))))
  cases e with
  | cons h1 t =>
    rename_i v vs
    have hall : ((List.map (fun _ => Value.type "tuple") (v :: vs)).toArray.all fun x => x == Value.type "tuple") = true := by
      simp only [List.all_toArray, List.all_map, List.all_eq_true]
      intro _ _
      rfl
    have h0 : (List.map (fun _ => Value.type "tuple") (v :: vs)).toArray[0]? = some (Value.type "tuple") := by simp
    rw [h0]
    simp only [hall, if_true]
    exact wpAny_pure (wpAny_pure h)
/-- all are tuples, the first () -/
def Tupled (ds : List PyData) : Prop := ∃ r, ds = .tuple [] :: r ∧ ∀ d ∈ r, ∃ xs, d = .tuple xs
theorem sorts_at {vs : List Value} {ds : List PyData} (e : EachIs (fun v d => ∃ as, Reads s.heap v d as) vs ds) (hal : AllAlike ds) (hk : Sortable ds ∨ Tupled ds) (hu : ∀ d, d ∈ ds → A.units + d.depth < cLine) : SortsAt prog w A s (dataKind s.heap ds) vs := by
  rcases hk with hk | ⟨r, rfl, ht⟩
  · exact SortsAt.data e hal hk hu
  · refine ⟨fun v hv => ?_, oneType', ?_, fun h2 E Q hq => kind_tups e ht hq⟩
    · obtain ⟨d, hd, as, r⟩ := e.left v hv
      exact ⟨_, dataKind_some hal hd r⟩
    · intro E x y a b Q ha hb hq
      obtain ⟨d, as, hd, ra, rfl⟩ := dataKind_inv ha
      obtain ⟨d', as', hd', rb, rfl⟩ := dataKind_inv hb
      rw [keyLt'_oneType]
      have tt : ∀ d ∈ PyData.tuple [] :: r, ∃ xs, d = .tuple xs := fun d hd => by
        rcases List.mem_cons.mp hd with rfl | hd
        · exact ⟨_, rfl⟩
        · exact ht d hd
      obtain ⟨xs, rfl⟩ := tt d hd
      obtain ⟨ys, rfl⟩ := tt d' hd'
      exact oneLt_tup ra rb (hal _ hd _ hd') (Nat.lt_of_le_of_lt (Nat.add_le_add_left (Nat.min_le_left _ _) _) (hu _ hd)) hq
variable {β : Type} {vs : List Value} {bs : List β} {enc : β → PyData} {R : Value → β → Prop}
theorem sorted_any {l : Addr} {Q : Value → Shared → Prop} (hl : s.heap.IsList l vs.toArray) (e : EachIs R vs bs) (er : EachIs (fun v b => ∃ as, Reads s.heap v (enc b) as) vs bs) (hal : AllAlike (bs.map enc)) (hk : Sortable (bs.map enc) ∨ Tupled (bs.map enc)) (hL : bs.length ≤ sizeLine)
    (hu : ∀ b, b ∈ bs → A.units + 2 + (enc b).depth < cLine) (h : ∀ out, out.length = bs.length → EachIs R out (bs.mergeSort (dataLe false enc)) → Q (.ref (s.heap.objs.size + 1)) { s with heap := sortedAll s.heap vs (List.toArray out) }) :
    wpAny (model prog w) A (call (.builtin "sorted") [.ref l]) Q E s := by
  have er' : EachIs (fun v b => ∃ as, Reads (sortingHeap (copyHeap s.heap vs) (s.heap.objs.size + 1) vs) v (enc b) as) vs bs := er.mono fun _ _ ⟨as, r⟩ => ⟨as, PyProof.Rows.Reads.keeps (fun _ _ => sorting_copy_old) r⟩
  exact sorted_vals hl (sorts_at (s := { s with heap := sortingHeap (copyHeap s.heap vs) (s.heap.objs.size + 1) vs }) (each_map (R := fun v d => ∃ as, Reads (sortingHeap (copyHeap s.heap vs) (s.heap.objs.size + 1) vs) v d as) enc er') hal hk (bound_map hu)) (by rw [e.length]; exact hL)
    (h _ (by rw [sortVals_length false rfl]; exact e.length) (sortVals_data false e er' hal))
end
end Nt

namespace Nt
section
open PySem
open PySem.Sem (wp)
/-- a zip that has handed out a tuple -/
abbrev ZOut (h : Heap) (z TI TO a : Addr) (f : Bool) : Prop :=
  h.get? z = some { cls := .type "zip", dict := none, data := .fields #[rawInt a, .bool f, .bool false, .ref TI, .ref TO], slots := #[] }
variable {prog : Program} {w : World} {A : Around} {E : Value → Shared → Prop} {s : Shared} {z TI TO i1 i2 a : Addr} {fp1 fp2 : List Addr} {n1 n2 i : Nat} {P1 P2 : Nat → Value → Prop} {St1 St2 : Nat → Heap → Prop} {a1 a2 : Value} {f : Bool} {oa : Obj}
theorem zout_alive {a : Addr} {o : Obj} {Q : Option Obj → Shared → Prop} (ho : s.heap.get? a = some o) (h : Q (some o) s) : wpAny (model prog w) A (loadIfAlive a) Q E s := by
  have h' : Q (s.heap.get? a) s := by rw [ho]; exact h
  exact fun _ _ _ => h'
theorem zout_busy {Q : Bool → Shared → Prop} (hz : ZOut s.heap z TI TO a f) (ha : s.heap.get? a = some oa) (h : ∀ h', ZOut h' z TI TO a true → Heap.SameBut z s.heap h' → Q false { s with heap := h' }) :
    wpAny (model prog w) A (Builtin.SmallTypes.ownedTupleIsFree (.ref z)) Q E s := by
  obtain ⟨hp, g, d, tk, os⟩ := s
  unfold Builtin.SmallTypes.ownedTupleIsFree
  refine wpAny_bind (wpAny_field hz rfl (x := rawInt a) rfl ?_)
  show wpAny _ _ (loadIfAlive ((a : Int)).toNat >>= _) _ _ _
  rw [Int.toNat_natCast]
  refine wpAny_bind (zout_alive ha ?_)
  dsimp only [Option.isNone]
  rw [if_neg (by simp)]
  refine wpAny_bind (wpAny_field hz rfl (x := .bool f) rfl ?_)
  cases f with
  | true =>
    rw [if_neg (by simp)]
    exact wpAny_pure (h hp hz ⟨rfl, fun b hb => rfl⟩)
  | false =>
    rw [if_pos (by simp)]
    refine wpAny_bind (wpAny_setField_rec hz (by simp) fun h₁ he₁ hs₁ => ?_)
    exact wpAny_pure (h h₁ he₁ hs₁)
theorem zout_item {Q : Value → Shared → Prop} (S : ZipSep2 z TI TO i1 i2 fp1 fp2) (D1 : Draws prog w A i1 fp1 n1 P1 St1) (D2 : Draws prog w A i2 fp2 n2 P2 St2)
    (hz : ZOut s.heap z TI TO a f) (ha : s.heap.get? a = some oa) (hTI : IsTupOf2 s.heap TI (.ref i1) (.ref i2)) (st1 : St1 i s.heap) (st2 : St2 i s.heap) (hlt1 : i < n1) (hlt2 : i < n2)
    (hQ : ∀ x1 x2 h' tk, P1 i x1 → P2 i x2 → ZOut h' z TI TO a true → St1 (i + 1) h' → St2 (i + 1) h' → IsTupOf2 h' s.heap.objs.size x1 x2 → h'.objs.size = s.heap.objs.size + 1 →
      (∀ c o, c ≠ z → c ≠ i1 → c ≠ i2 → s.heap.get? c = some o → h'.get? c = some o) → Q (.ref s.heap.objs.size) { s with heap := h', toks := tk }) :
    wpAny (model prog w) A (Builtin.«zip.__next__» ⟨[.ref z], []⟩) (fun fin s' => ∃ v, fin = .done (.ret v) ∧ Q v s') E s := by
  obtain ⟨hp, g, d, tk0, os⟩ := s
  show wpAny _ _ (field (.ref z) 2 >>= _) _ _ _
  refine wpAny_bind (wpAny_field hz rfl (x := .bool false) rfl ?_)
  show wpAny _ _ (field (.ref z) 3 >>= _) _ _ _
  refine wpAny_bind (wpAny_field hz rfl (x := .ref TI) rfl ?_)
  refine wpAny_bind (wpAny_seqItems hTI rfl ?_)
  show wpAny _ _ (Builtin.SmallTypes.ownedTupleIsFree (.ref z) >>= _) _ _ _
  refine wpAny_bind (zout_busy hz ha fun g0 hz0 hs0 => ?_)
  replace hs0 : Heap.SameBut z hp g0 := hs0
  rw [if_neg (by simp)]
  simp only [← Array.forIn_toList, List.forIn_cons, List.forIn_nil]
  refine wpAny_bind (wpAny_bind (wpAny_bind (wpAny_holding ?_)))
  show wpAny _ _ (Builtin.SmallTypes.nextOf (.ref i1) >>= _) _ _ ⟨g0, g, d, tk0, os⟩
  refine wpAny_bind (D1.item i _ _ _ hlt1 (D1.over st1 hs0 S.zf1) fun x1 p1 tk1 hx1 sn1 hp1 => wpAny_pure ?_)
  replace hp1 : Heap.SameBut i1 g0 p1 := hp1
  refine wpAny_pure ?_
  refine wpAny_bind (wpAny_bind (wpAny_holding ?_))
  show wpAny _ _ (Builtin.SmallTypes.nextOf (.ref i2) >>= _) _ _ ⟨p1, g, d, tk1, os⟩
  refine wpAny_bind (D2.item i _ _ _ hlt2 (D2.over (D2.over st2 hs0 S.zf2) hp1 S.sep1_2) fun x2 p2 tk2 hx2 sn2 hp2 => wpAny_pure ?_)
  replace hp2 : Heap.SameBut i2 p1 p2 := hp2
  refine wpAny_pure (wpAny_pure ?_)
  refine wpAny_bind (wpAny_newTuple ?_ (by show 2 ≤ sizeLine; decide))
  have hsz : p2.objs.size = hp.objs.size := by rw [hp2.1, hp1.1, hs0.1]
  have hzz : ZOut p2 z TI TO a true := hp2.extBut _ _ S.zi2 (hp1.extBut _ _ S.zi1 hz0)
  have up : ∀ c o, p2.get? c = some o → (p2.push { cls := .type "tuple", data := .seq #[x1, x2] }).get? c = some o := fun c o e => Heap.get?_push_of_some _ e
  have hj1 := D1.frame _ _ (p2.push { cls := .type "tuple", data := .seq #[x1, x2] }) (D1.over sn1 hp2 S.sep2_1) fun b _ o e => up b o e
  have hj2 := D2.frame _ _ (p2.push { cls := .type "tuple", data := .seq #[x1, x2] }) sn2 fun b _ o e => up b o e
  have hT : IsTupOf2 (p2.push { cls := .type "tuple", data := .seq #[x1, x2] }) p2.objs.size x1 x2 := Heap.get?_push_size _ rfl
  rw [hsz] at hT
  refine wpAny_pure ⟨_, rfl, ?_⟩
  show Q (.ref p2.objs.size) ⟨p2.push { cls := .type "tuple", data := .seq #[x1, x2] }, g, d, tk2, os⟩
  rw [hsz]
  exact hQ x1 x2 _ tk2 hx1 hx2 (up _ _ hzz) hj1 hj2 hT (by rw [Heap.size_push, hsz]) fun c o cz c1 c2 e => up c o (hp2.extBut _ _ c2 (hp1.extBut _ _ c1 (hs0.extBut _ _ cz e)))
theorem zout_end {Q : PySem.Fin → Shared → Prop} (S : ZipSep2 z TI TO i1 i2 fp1 fp2) (D1 : Draws prog w A i1 fp1 n1 P1 St1)
    (hz : ZOut s.heap z TI TO a f) (ha : s.heap.get? a = some oa) (hTI : IsTupOf2 s.heap TI (.ref i1) (.ref i2)) (st1 : St1 n1 s.heap)
    (hE : ∀ h' e, (∀ c o, c ≠ z → c ≠ i1 → c ≠ i2 → s.heap.get? c = some o → h'.get? c = some o) → (∃ o, h'.get? e = some o ∧ o.cls = .type "StopIteration") → E (.ref e) { s with heap := h' }) :
    wpAny (model prog w) A (Builtin.«zip.__next__» ⟨[.ref z], []⟩) Q E s := by
  obtain ⟨hp, g, d, tk0, os⟩ := s
  show wpAny _ _ (field (.ref z) 2 >>= _) _ _ _
  refine wpAny_bind (wpAny_field hz rfl (x := .bool false) rfl ?_)
  show wpAny _ _ (field (.ref z) 3 >>= _) _ _ _
  refine wpAny_bind (wpAny_field hz rfl (x := .ref TI) rfl ?_)
  refine wpAny_bind (wpAny_seqItems hTI rfl ?_)
  show wpAny _ _ (Builtin.SmallTypes.ownedTupleIsFree (.ref z) >>= _) _ _ _
  refine wpAny_bind (zout_busy hz ha fun g0 hz0 hs0 => ?_)
  replace hs0 : Heap.SameBut z hp g0 := hs0
  rw [if_neg (by simp)]
  simp only [← Array.forIn_toList, List.forIn_cons, List.forIn_nil]
  refine wpAny_bind (wpAny_bind (wpAny_bind (wpAny_holding ?_)))
  show wpAny _ _ (Builtin.SmallTypes.nextOf (.ref i1) >>= _) _ _ ⟨g0, g, d, tk0, os⟩
  refine wpAny_bind (D1.done ⟨g0, g, d, tk0, os⟩ _ _ (D1.over st1 hs0 S.zf1) fun q e hq he => ?_)
  replace hq : Heap.ExtBut i1 g0 q := hq
  exact hE q e (fun c o cz c1 c2 x => hq _ _ c1 (hs0.extBut _ _ cz x)) he

/-- the state of a zip at its i-th turn, S apart from it -/
def ZSt (h : Heap) (z TI TO i1 i2 S : Addr) (i : Nat) : Prop := IsTupOf2 h TI (.ref i1) (.ref i2) ∧
  ((i = 0 ∧ IsZip h z TI TO .none ∧ ∃ x y, IsTupOf2 h TO x y) ∨ ∃ a f oa, ZOut h z TI TO a f ∧ h.get? a = some oa ∧ a ≠ z ∧ a ≠ i1 ∧ a ≠ i2 ∧ a ≠ S)
theorem zst_item {Q : Option Value → Shared → Prop} {S : Addr} (Z : ZipSep2 z TI TO i1 i2 fp1 fp2) (D1 : Draws prog w A.in1 i1 fp1 n1 P1 St1) (D2 : Draws prog w A.in1 i2 fp2 n1 P2 St2)
    (hz : ZSt s.heap z TI TO i1 i2 S i) (st1 : St1 i s.heap) (st2 : St2 i s.heap) (hlt : i < n1) (hS : S < s.heap.objs.size)
    (hQ : ∀ x1 x2 h' tk, P1 i x1 → P2 i x2 → ZSt h' z TI TO i1 i2 S (i + 1) → St1 (i + 1) h' → St2 (i + 1) h' → IsTupOf2 h' s.heap.objs.size x1 x2 → h'.objs.size = s.heap.objs.size + 1 →
      (∀ c o, c ≠ z → c ≠ TO → c ≠ i1 → c ≠ i2 → s.heap.get? c = some o → h'.get? c = some o) → Q (some (.ref s.heap.objs.size)) { s with heap := h', toks := tk }) :
    wpAny (model prog w) A (pyNext (.ref z)) Q E s := by
  obtain ⟨hTI, hz⟩ := hz
  have lv1 : i1 < s.heap.objs.size := by obtain ⟨o, e⟩ := D1.live _ _ st1; exact Heap.lt_size e
  have lv2 : i2 < s.heap.objs.size := by obtain ⟨o, e⟩ := D2.live _ _ st2; exact Heap.lt_size e
  rcases hz with ⟨rfl, hz, x, y, hTO⟩ | ⟨a, f, oa, hz, ha, haz, ha1, ha2, haS⟩
  · have hzl : z < s.heap.objs.size := Heap.lt_size hz
    refine wpAny_pyNext_zipD2_item Z D1 D2 hz hTI hTO st1 st2 hlt hlt fun x1 x2 h' tk p1 p2 b1 b2 d1 d2 b5 b6 b7 => ?_
    exact hQ x1 x2 h' tk p1 p2 ⟨b7 _ _ Z.TIz Z.TITO Z.TIi1 Z.TIi2 hTI, .inr ⟨_, false, _, b1, b5, Nat.ne_of_gt hzl, Nat.ne_of_gt lv1, Nat.ne_of_gt lv2, Nat.ne_of_gt hS⟩⟩ d1 d2 b5 b6 b7
  · have hT : s.TypeIs (.ref z) "zip" := ⟨_, hz, rfl⟩
    unfold pyNext
    refine wpAny_bind (wpAny_attempt (wpAny_callSpecial?_slot (name := Str.ofString "__next__") hT F.slot_zip_next
      (wpAny_call_entry F.slot_zip_next hT F.entry_zip_next
        (zout_item Z D1 D2 hz ha hTI st1 st2 hlt hlt fun x1 x2 h' tk p1 p2 b1 d1 d2 b5 b6 b7 => wpAny_pure ?_) (F.args_zip_next_1 _))))
    exact hQ x1 x2 h' tk p1 p2 ⟨b7 _ _ Z.TIz Z.TIi1 Z.TIi2 hTI, .inr ⟨a, true, oa, b1, b7 _ _ haz ha1 ha2 ha, haz, ha1, ha2, haS⟩⟩ d1 d2 b5 b6 fun c o cz _ c1 c2 e => b7 c o cz c1 c2 e
theorem zst_done {Q : Option Value → Shared → Prop} {S : Addr} (hh : A.handled = none) (Z : ZipSep2 z TI TO i1 i2 fp1 fp2) (D1 : Draws prog w A.in1 i1 fp1 n1 P1 St1) (D2 : Draws prog w A.in1 i2 fp2 n1 P2 St2)
    (hz : ZSt s.heap z TI TO i1 i2 S n1) (st1 : St1 n1 s.heap) (st2 : St2 n1 s.heap)
    (hQ : ∀ h' tk, (∀ c o, c ≠ z → c ≠ TO → c ≠ i1 → c ≠ i2 → s.heap.get? c = some o → h'.get? c = some o) → Q none { s with heap := h', toks := tk }) :
    wpAny (model prog w) A (pyNext (.ref z)) Q E s := by
  obtain ⟨hTI, hz⟩ := hz
  rcases hz with ⟨e0, hz, x, y, hTO⟩ | ⟨a, f, oa, hz, ha, haz, ha1, ha2, haS⟩
  · exact wpAny_pyNext_zipD2_end Z D1 D2 hz hTI hTO st1 st2 (Nat.le_refl _) (Nat.le_refl _) (.inl rfl) hQ
  · have hT : s.TypeIs (.ref z) "zip" := ⟨_, hz, rfl⟩
    unfold pyNext
    refine wpAny_bind (wpAny_attempt (wpAny_callSpecial?_slot (name := Str.ofString "__next__") hT F.slot_zip_next
      (wpAny_call_entry F.slot_zip_next hT F.entry_zip_next (zout_end Z D1 hz ha hTI st1 fun h' e hk he => ?_) (F.args_zip_next_1 _))))
    obtain ⟨o, ho, hc⟩ := he
    refine wpAny_bind (wpAny_isInstance (T := "StopIteration") (b := true) ⟨o, ho, hc⟩ isSubtype_stop ?_)
    exact wpAny_pure (hQ h' s.toks fun c o cz _ c1 c2 e => hk c o cz c1 c2 e)
/-- the tuples handed out -/
structure ZG (P1 P2 : Nat → Value → Prop) (lo : Addr) (h : Heap) (as : List Addr) : Prop where
  rise : as.Pairwise (· < ·)
  above : ∀ a ∈ as, lo < a
  pairs : ∀ (j : Nat) (a : Addr), as[j]? = some a → ∃ x1 x2, P1 j x1 ∧ P2 j x2 ∧ IsTupOf2 h a x1 x2
theorem ZG.there {lo : Addr} {h : Heap} {as : List Addr} (g : ZG P1 P2 lo h as) {a : Addr} (ha : a ∈ as) : a < h.objs.size := by
  obtain ⟨j, hj⟩ := List.mem_iff_getElem?.mp ha
  obtain ⟨_, _, _, _, e⟩ := g.pairs j a hj
  exact Heap.lt_size e
theorem zip_loop {R : Result → Shared → Prop} {S : Addr} (hh : A.handled = none) (Z : ZipSep2 z TI TO i1 i2 fp1 fp2) (D1 : Draws prog w A.in1.in1 i1 fp1 n1 P1 St1) (D2 : Draws prog w A.in1.in1 i2 fp2 n1 P2 St2)
    (hSz : S ≠ z) (hST : S ≠ TO) (hSTI : S ≠ TI) (hS1 : S ≠ i1) (hS2 : S ≠ i2) (hf1 : S ∉ fp1) (hf2 : S ∉ fp2) (lo : Addr) (l1 : z ≤ lo) (l2 : TO ≤ lo) (l3 : i1 ≤ lo) (l4 : i2 ≤ lo) (l5 : S ≤ lo) (hn : n1 ≤ sizeLine) (res : Value) {h₁ : Heap}
    (hR : ∀ h' tk acc c as, (∀ b o, b ≠ S → b ≠ z → b ≠ TO → b ≠ i1 → b ≠ i2 → h₁.get? b = some o → h'.get? b = some o) → h'.get? S = some { cls := .type "list", dict := none, data := .seq acc c, slots := #[] } → as.length = n1 → ZG P1 P2 lo h' as →
      acc.toList = as.map Value.ref → R (.ok (.ret res)) { s with heap := h', toks := tk }) :
    ∀ (k i : Nat) (h : Heap) (tk c : Nat) (acc : Array Value) (as : List Addr), n1 - i = k → i ≤ n1 → ZSt h z TI TO i1 i2 S i → St1 i h → St2 i h → (∀ b o, b ≠ S → b ≠ z → b ≠ TO → b ≠ i1 → b ≠ i2 → h₁.get? b = some o → h.get? b = some o) →
      h.get? S = some { cls := .type "list", dict := none, data := .seq acc c, slots := #[] } → acc.toList = as.map Value.ref → as.length = i → ZG P1 P2 lo h as → lo < h.objs.size →
      codeAny (model prog w) A (.builtin "list.extend.loop" ⟨[.ref S, .ref z, res], []⟩) R { s with heap := h, toks := tk } := by
  intro k
  induction k with
  | zero =>
    intro i h tk c acc as hk hi hst st1 st2 hkeep hS hacc hal hG hIs
    have hin : i = n1 := by omega
    subst hin
    refine codeAny_builtin PySem.F.entry_extend_loop ?_
    rw [Around.under_plainId PySem.F.plain_extend_loop _]
    show wpAny _ A.in1 (pyNext (.ref z) >>= _) _ _ _
    refine wpAny_bind (zst_done (s := { s with heap := h, toks := tk }) (A := A.in1) hh Z D1 D2 hst st1 st2 fun h' tk' he => ?_)
    dsimp only at he
    have ne : ∀ a ∈ as, a ≠ z ∧ a ≠ TO ∧ a ≠ i1 ∧ a ≠ i2 := fun a ha => by
      have := hG.above a ha
      exact ⟨Nat.ne_of_gt (Nat.lt_of_le_of_lt l1 this), Nat.ne_of_gt (Nat.lt_of_le_of_lt l2 this), Nat.ne_of_gt (Nat.lt_of_le_of_lt l3 this), Nat.ne_of_gt (Nat.lt_of_le_of_lt l4 this)⟩
    refine wpAny_pure (hR h' tk' acc c as (fun b o h1 h2 h3 h4 h5 e => he b o h2 h3 h4 h5 (hkeep b o h1 h2 h3 h4 h5 e)) (he S _ hSz hST hS1 hS2 hS) hal ⟨hG.rise, hG.above, fun j a hj => ?_⟩ hacc)
    obtain ⟨x1, x2, e1, e2, e3⟩ := hG.pairs j a hj
    obtain ⟨m1, m2, m3, m4⟩ := ne a (List.mem_of_getElem? hj)
    exact ⟨x1, x2, e1, e2, he a _ m1 m2 m3 m4 e3⟩
  | succ k ih =>
    intro i h tk c acc as hk hi hst st1 st2 hkeep hS hacc hal hG hIs
    have hlt : i < n1 := by omega
    have hsz : acc.size = i := by rw [← Array.length_toList, hacc, List.length_map, hal]
    refine codeAny_builtin PySem.F.entry_extend_loop ?_
    rw [Around.under_plainId PySem.F.plain_extend_loop _]
    show wpAny _ A.in1 (pyNext (.ref z) >>= _) _ _ _
    refine wpAny_bind (zst_item (s := { s with heap := h, toks := tk }) (S := S) (A := A.in1) Z D1 D2 hst st1 st2 hlt (Heap.lt_size hS) fun x1 x2 h' tk' p1 p2 hst' st1' st2' ht hz hkp => ?_)
    dsimp only at ht hz hkp ⊢
    have hS' := hkp S _ hSz hST hS1 hS2 hS
    have up : ∀ b o, b ≠ S → h'.get? b = some o → (h'.update S (Obj.mapSeq (·.push (Value.ref h.objs.size)))).get? b = some o := fun b o hb e => (Heap.get?_update_other _ _ (Ne.symm hb)).trans e
    have hSl : S < h.objs.size := Heap.lt_size hS
    have hst2 : ZSt (h'.update S (Obj.mapSeq (·.push (Value.ref h.objs.size)))) z TI TO i1 i2 S (i + 1) := by
      obtain ⟨q1, q2⟩ := hst'
      refine ⟨up _ _ (Ne.symm hSTI) q1, ?_⟩
      rcases q2 with ⟨q, _⟩ | ⟨a, f, oa, q3, q4, q5, q6, q7, q8⟩
      · exact absurd q (Nat.succ_ne_zero _)
      · exact .inr ⟨a, f, oa, up _ _ (Ne.symm hSz) q3, up _ _ q8 q4, q5, q6, q7, q8⟩
    show wpAny _ A.in1 (updateSeq S (·.push (Value.ref h.objs.size)) >>= _) _ _ _
    refine wpAny_bind ?_
    refine wpAny_updateSeq hS' rfl (wpAny_pure ⟨plainId_quiet PySem.F.plain_extend_loop _, ih (i + 1) _ tk' _ (acc.push (Value.ref h.objs.size)) (as ++ [h.objs.size]) (by omega) hlt hst2
      (D1.frame _ _ _ st1' fun b hb o e => up b o (fun q => hf1 (q ▸ hb)) e) (D2.frame _ _ _ st2' fun b hb o e => up b o (fun q => hf2 (q ▸ hb)) e)
      (fun b o h1 h2 h3 h4 h5 e => up b o h1 (hkp b o h2 h3 h4 h5 (hkeep b o h1 h2 h3 h4 h5 e))) (Heap.get?_update_self _ hS' rfl) (by rw [Array.toList_push, hacc, List.map_append]; rfl) (by rw [List.length_append, hal]; rfl) ⟨?_, ?_, ?_⟩ ?_⟩) (by rw [hsz]; omega) (by show (acc.push (Value.ref h.objs.size)).size ≤ sizeLine + 1; rw [Array.size_push, hsz]; omega)
    · refine List.pairwise_append.mpr ⟨hG.rise, List.pairwise_singleton _ _, fun a ha b hb => ?_⟩
      rw [List.mem_singleton.mp hb]
      exact hG.there ha
    · intro a ha
      rcases List.mem_append.mp ha with ha | ha
      · exact hG.above a ha
      · rw [List.mem_singleton.mp ha]; exact hIs
    · intro j b hj
      rcases Nat.lt_trichotomy j as.length with h1 | h1 | h1
      · rw [List.getElem?_append_left h1] at hj
        obtain ⟨y1, y2, e1, e2, e3⟩ := hG.pairs j b hj
        have hb := hG.above b (List.mem_of_getElem? hj)
        exact ⟨y1, y2, e1, e2, up b _ (Nat.ne_of_gt (Nat.lt_of_le_of_lt l5 hb)) (hkp b _ (Nat.ne_of_gt (Nat.lt_of_le_of_lt l1 hb)) (Nat.ne_of_gt (Nat.lt_of_le_of_lt l2 hb)) (Nat.ne_of_gt (Nat.lt_of_le_of_lt l3 hb)) (Nat.ne_of_gt (Nat.lt_of_le_of_lt l4 hb)) e3)⟩
      · subst h1
        have hb : h.objs.size = b := by simpa using hj
        subst hb
        exact ⟨x1, x2, by rw [hal]; exact p1, by rw [hal]; exact p2, up _ _ (Nat.ne_of_gt hSl) ht⟩
      · have hnone : (as ++ [h.objs.size])[j]? = none := List.getElem?_eq_none (by rw [List.length_append, List.length_singleton]; omega)
        rw [hnone] at hj; cases hj
    · rw [Heap.size_update, hz]
      exact Nat.lt_succ_of_lt hIs
theorem zip_no_len : typeLookup (.type "zip") "__len__" = pure none := by rw [typeLookup_type, builtinLookup_eq_fast]; kernel_rfl
theorem zip_no_hint : typeLookup (.type "zip") "__length_hint__" = pure none := by rw [typeLookup_type, builtinLookup_eq_fast]; kernel_rfl
theorem zip_hint (hT : s.TypeIs (.ref z) "zip") {Q : Bool → Shared → Prop} (h : Q true s) : wpAny (model prog w) A (Builtin.List.listLengthHint (.ref z)) Q E s := by
  unfold Builtin.List.listLengthHint
  refine wpAny_bind (wpAny_specialOf hT zip_no_len ?_)
  dsimp only
  refine wpAny_ite_split (fun hab => absurd hab (by decide)) (fun _ => ?_)
  refine wpAny_ite_split (fun hab => absurd hab (by decide)) (fun _ => ?_)
  refine wpAny_bind (wpAny_specialOf hT zip_no_hint ?_)
  exact wpAny_pure h
end
end Nt

namespace Nt
section
open PySem
open PySem.Sem (wp)
variable {prog : Program} {w : World} {A : Around} {E : Value → Shared → Prop} {s : Shared} {z TI TO i1 i2 : Addr} {fp1 fp2 : List Addr} {n1 : Nat} {P1 P2 : Nat → Value → Prop} {St1 St2 : Nat → Heap → Prop}
/-- a zip at its beginning -/
structure ZNew (prog : Program) (w : World) (A : Around) (h : Heap) (z TI TO i1 i2 : Addr) (fp1 fp2 : List Addr) (n : Nat) (P1 P2 : Nat → Value → Prop) (St1 St2 : Nat → Heap → Prop) : Prop where
  sep : ZipSep2 z TI TO i1 i2 fp1 fp2
  d1 : Draws prog w A i1 fp1 n P1 St1
  d2 : Draws prog w A i2 fp2 n P2 St2
  z : IsZip h z TI TO .none
  TI : IsTupOf2 h TI (.ref i1) (.ref i2)
  TO : ∃ x y, IsTupOf2 h TO x y
  st1 : St1 0 h
  st2 : St2 0 h
theorem ZNew.up {h h' : Heap} (Z : ZNew prog w A h z TI TO i1 i2 fp1 fp2 n1 P1 P2 St1 St2) (k : ∀ b o, (b = z ∨ b = TI ∨ b = TO ∨ b ∈ fp1 ∨ b ∈ fp2) → h.get? b = some o → h'.get? b = some o) : ZNew prog w A h' z TI TO i1 i2 fp1 fp2 n1 P1 P2 St1 St2 :=
  ⟨Z.sep, Z.d1, Z.d2, k _ _ (.inl rfl) Z.z, k _ _ (.inr (.inl rfl)) Z.TI, let ⟨x, y, e⟩ := Z.TO; ⟨x, y, k _ _ (.inr (.inr (.inl rfl))) e⟩,
    Z.d1.frame _ _ _ Z.st1 fun b hb o e => k b o (.inr (.inr (.inr (.inl hb)))) e, Z.d2.frame _ _ _ Z.st2 fun b hb o e => k b o (.inr (.inr (.inr (.inr hb)))) e⟩
theorem zip_extend {R : Result → Shared → Prop} {S : Addr} (hh : A.handled = none) (Z : ZNew prog w A.in1.in1 s.heap z TI TO i1 i2 fp1 fp2 n1 P1 P2 St1 St2)
    (hSz : S ≠ z) (hST : S ≠ TO) (hSTI : S ≠ TI) (hf1 : S ∉ fp1) (hf2 : S ∉ fp2) (lo : Addr) (l1 : z ≤ lo) (l2 : TO ≤ lo) (l3 : i1 ≤ lo) (l4 : i2 ≤ lo) (l5 : S ≤ lo) (l6 : lo < s.heap.objs.size) (hn : n1 ≤ sizeLine) (res : Value) (c₀ : Nat)
    (hS : s.heap.get? S = some { cls := .type "list", data := .seq #[] c₀ })
    (hR : ∀ h' tk acc c as, (∀ b o, b ≠ S → b ≠ z → b ≠ TO → b ≠ i1 → b ≠ i2 → s.heap.get? b = some o → h'.get? b = some o) → h'.get? S = some { cls := .type "list", dict := none, data := .seq acc c, slots := #[] } → as.length = n1 → ZG P1 P2 lo h' as →
      acc.toList = as.map Value.ref → R (.ok (.ret res)) { s with heap := h', toks := tk }) :
    wpAny (model prog w) A.in1 (Builtin.List.listExtendWith (.ref S) (.ref z) res)
      (fun fin s' => match fin with | .done f => R (.ok f) s' | .again c' => c'.quiet = true ∧ codeAny (model prog w) A c' R s') (fun e s' => R (.error e) s') s := by
  have hS1 : S ≠ i1 := fun q => hf1 (by rw [q]; exact Z.sep.mem1)
  have hS2 : S ≠ i2 := fun q => hf2 (by rw [q]; exact Z.sep.mem2)
  have key : ∀ (h : Heap) (c₁ tk : Nat), (∀ b o, b ≠ S → s.heap.get? b = some o → h.get? b = some o) → lo < h.objs.size →
      h.get? S = some { cls := .type "list", data := .seq #[] c₁ } → codeAny (model prog w) A (.builtin "list.extend.loop" ⟨[.ref S, .ref z, res], []⟩) R { s with heap := h, toks := tk } := by
    intro h c₁ tk hk hlo hS₁
    have Z' := Z.up (h' := h) fun b o hb e => hk b o (by
      rcases hb with q | q | q | q | q
      · rw [q]; exact Ne.symm hSz
      · rw [q]; exact Ne.symm hSTI
      · rw [q]; exact Ne.symm hST
      · exact fun r => hf1 (r ▸ q)
      · exact fun r => hf2 (r ▸ q)) e
    obtain ⟨x, y, hTO⟩ := Z'.TO
    exact zip_loop (s := s) (h₁ := s.heap) hh Z'.sep Z'.d1 Z'.d2 hSz hST hSTI hS1 hS2 hf1 hf2 lo l1 l2 l3 l4 l5 hn res hR n1 0 h tk c₁ #[] [] (Nat.sub_zero _) (Nat.zero_le _) ⟨Z'.TI, .inl ⟨rfl, Z'.z, x, y, hTO⟩⟩ Z'.st1 Z'.st2
      (fun b o hb _ _ _ _ e => hk b o hb e) hS₁ rfl rfl ⟨List.Pairwise.nil, (fun _ ha => nomatch ha), (fun j a hj => by simp at hj)⟩ hlo
  have hT : s.TypeIs (.ref z) "zip" := ⟨_, Z.z, rfl⟩
  unfold Builtin.List.listExtendWith
  refine wpAny_bind (wpAny_typeOf (T := "zip") hT ?_)
  have h1 : Builtin.List.listSameRef (.ref S) (.ref z) = false := by simp [Builtin.List.listSameRef, hSz]
  have h2 : (Value.type "zip" == Value.type "list") = false := by decide
  have h3 : (Value.type "zip" == Value.type "tuple") = false := by decide
  simp only [h1, h2, h3, Bool.or_false, Bool.false_eq_true, if_false]
  refine wpAny_bind (wpAny_pyIter_zip Z.z ?_)
  refine wpAny_bind (wpAny_holding (zip_hint hT ?_))
  refine wpAny_ite_split (fun _ => ?_) (fun _ => wpAny_pure ⟨plainId_quiet PySem.F.plain_extend_loop _, key _ c₀ _ (fun b o _ e => e) l6 hS⟩)
  refine wpAny_bind (wpAny_rule ?_)
  refine wpAny_bind ?_
  show wpAny _ _ (updateSeq S (·.push .none) >>= fun _ => updateSeq S (·.pop)) _ _ _
  refine wpAny_bind (wpAny_updateSeq hS rfl ?_)
  have hS₂ := Heap.get?_update_self (Obj.mapSeq (·.push Value.none)) hS rfl
  refine wpAny_updateSeq (hz := by seq_fits) hS₂ rfl ?_
  have hS₃ := Heap.get?_update_self (Obj.mapSeq (·.pop)) hS₂ rfl
  refine wpAny_pure ⟨plainId_quiet PySem.F.plain_extend_loop _, key _ _ _ (fun b o hb e => ?_) (by rw [Heap.size_update, Heap.size_update]; exact l6) hS₃⟩
  exact (Heap.get?_update_other _ _ (Ne.symm hb)).trans ((Heap.get?_update_other _ _ (Ne.symm hb)).trans e)
theorem zip_init {R : Result → Shared → Prop} {S : Addr} (hh : A.handled = none) (Z : ZNew prog w A.in1.in1 s.heap z TI TO i1 i2 fp1 fp2 n1 P1 P2 St1 St2)
    (hSz : S ≠ z) (hST : S ≠ TO) (hSTI : S ≠ TI) (hf1 : S ∉ fp1) (hf2 : S ∉ fp2) (lo : Addr) (l1 : z ≤ lo) (l2 : TO ≤ lo) (l3 : i1 ≤ lo) (l4 : i2 ≤ lo) (l5 : S ≤ lo) (l6 : lo < s.heap.objs.size) (hn : n1 ≤ sizeLine)
    (hS : s.heap.get? S = some { cls := .type "list", data := .seq #[] })
    (hR : ∀ h' tk acc c as, (∀ b o, b ≠ S → b ≠ z → b ≠ TO → b ≠ i1 → b ≠ i2 → s.heap.get? b = some o → h'.get? b = some o) → h'.get? S = some { cls := .type "list", dict := none, data := .seq acc c, slots := #[] } → as.length = n1 → ZG P1 P2 lo h' as →
      acc.toList = as.map Value.ref → R (.ok (.ret .none)) { s with heap := h', toks := tk }) :
    wpAny (model prog w) A.in1 (Builtin.«list.__init__» ⟨[.ref S, .ref z], []⟩)
      (fun fin s' => match fin with | .done f => R (.ok f) s' | .again c' => c'.quiet = true ∧ codeAny (model prog w) A c' R s') (fun e s' => R (.error e) s') s := by
  show wpAny _ _ (do let old ← Builtin.List.listItems (.ref S); Builtin.List.listUpdate (.ref S) (fun _ => #[]); letGo old.toList.reverse; Builtin.List.listExtendWith (.ref S) (.ref z) .none) _ _ s
  refine wpAny_bind ?_
  unfold Builtin.List.listItems
  refine wpAny_bind (wpAny_seqItems hS rfl (wpAny_pure ?_))
  show wpAny _ _ (updateSeq S (fun _ => #[]) >>= fun _ => letGo (#[] : Array Value).toList.reverse >>= fun _ => Builtin.List.listExtendWith (.ref S) (.ref z) .none) _ _ s
  refine wpAny_bind (wpAny_updateSeq hS rfl ?_)
  have hS₂ := Heap.get?_update_self (Obj.mapSeq (fun _ => (#[] : Array Value))) hS rfl
  have oth : ∀ b o, b ≠ S → s.heap.get? b = some o → (s.heap.update S (Obj.mapSeq (fun _ => (#[] : Array Value)))).get? b = some o :=
    fun b o hb e => (Heap.get?_update_other _ _ (Ne.symm hb)).trans e
  refine wpAny_bind (wpAny_letGo ?_)
  have Z' := Z.up (h' := s.heap.update S (Obj.mapSeq (fun _ => (#[] : Array Value)))) fun b o hb e => oth b o (by
      rcases hb with q | q | q | q | q
      · rw [q]; exact Ne.symm hSz
      · rw [q]; exact Ne.symm hSTI
      · rw [q]; exact Ne.symm hST
      · exact fun r => hf1 (r ▸ q)
      · exact fun r => hf2 (r ▸ q)) e
  refine zip_extend (s := { s with heap := s.heap.update S (Obj.mapSeq (fun _ => (#[] : Array Value))) }) hh Z' hSz hST hSTI hf1 hf2 lo l1 l2 l3 l4 l5 (by show lo < (s.heap.update S _).objs.size; rw [Heap.size_update]; exact l6) hn .none _ hS₂ fun h' tk acc c as hk hS' hl hG hacc => ?_
  exact hR h' tk acc c as (fun b o h1 h2 h3 h4 h5 e => hk b o h1 h2 h3 h4 h5 (oth b o h1 e)) hS' hl hG hacc
theorem zip_call {Q : Value → Shared → Prop} (hh : A.handled = none) (Z : ZNew prog w A.in1.in1.in1 s.heap z TI TO i1 i2 fp1 fp2 n1 P1 P2 St1 St2) (hf : ∀ b, (b = z ∨ b = TI ∨ b = TO ∨ b ∈ fp1 ∨ b ∈ fp2) → b < s.heap.objs.size) (hn : n1 ≤ sizeLine)
    (hQ : ∀ h' tk acc c as, (∀ b o, b ≠ z → b ≠ TO → b ≠ i1 → b ≠ i2 → s.heap.get? b = some o → h'.get? b = some o) → h'.get? s.heap.objs.size = some { cls := .type "list", dict := none, data := .seq acc c, slots := #[] } → as.length = n1 → ZG P1 P2 s.heap.objs.size h' as →
      acc.toList = as.map Value.ref → Q (.ref s.heap.objs.size) { s with heap := h', toks := tk }) :
    wpAny (model prog w) A (call (.type "list") [.ref z]) Q E s := by
  refine callType_codes (Q₁ := fun obj s₁ => obj = .ref s.heap.objs.size ∧ s₁ = { s with heap := s.heap.push { cls := .type "list", data := .seq #[] } }) PySem.F.called_list (PySem.F.typeCall_list_1 _) PySem.F.entry_list_init
    (code_list_new _ ⟨rfl, rfl⟩) fun obj s₁ h₁ => ?_
  obtain ⟨rfl, rfl⟩ := h₁
  have hS : (s.heap.push { cls := .type "list", data := .seq #[] }).get? s.heap.objs.size = some { cls := .type "list", data := .seq #[] } := Heap.get?_push_size _ rfl
  have hlt := hf
  have ge : ∀ b, (b = z ∨ b = TI ∨ b = TO ∨ b ∈ fp1 ∨ b ∈ fp2) → s.heap.objs.size ≠ b := fun b hb => Nat.ne_of_gt (hf b hb)
  refine ⟨⟨_, hS, rfl⟩, PySem.F.args_list_init_2 _ _, zip_init (A := A.in1) (s := { s with heap := s.heap.push { cls := .type "list", data := .seq #[] } }) hh (Z.up fun b o _ e => Heap.get?_push_of_some _ e) (ge _ (.inl rfl)) (ge _ (.inr (.inr (.inl rfl)))) (ge _ (.inr (.inl rfl)))
    (fun q => ge _ (.inr (.inr (.inr (.inl q)))) rfl) (fun q => ge _ (.inr (.inr (.inr (.inr q)))) rfl) s.heap.objs.size (Nat.le_of_lt (hf _ (.inl rfl))) (Nat.le_of_lt (hf _ (.inr (.inr (.inl rfl))))) (Nat.le_of_lt (hf _ (.inr (.inr (.inr (.inl Z.sep.mem1))))))
    (Nat.le_of_lt (hf _ (.inr (.inr (.inr (.inr Z.sep.mem2)))))) (Nat.le_refl _) (by show _ < (s.heap.push _).objs.size; rw [Heap.size_push]; exact Nat.lt_succ_self _) hn hS (fun h' tk acc c as hk hS' hl hG hacc => ?_)⟩
  exact ⟨rfl, hQ h' tk acc c as (fun b o h2 h3 h4 h5 e => hk b o (Nat.ne_of_lt (Heap.lt_size e)) h2 h3 h4 h5 (Heap.get?_push_of_some _ e)) hS' hl hG hacc⟩
end
end Nt

namespace Nt
open PySem PySem.Spec L2
open PyProof.Rows hiding St

def layO (H : Hp) : List (Addr × HO) → Hp
  | [] => H
  | (a, o) :: r => layO (upd H a o) r
theorem layO_ne : ∀ {L : List (Addr × HO)} {H : Hp} {b : Addr}, b ∉ L.map Prod.fst → layO H L b = H b
  | [], _, _, _ => rfl
  | (a, o) :: r, H, b, h => by
    rw [List.map_cons, List.mem_cons, not_or] at h
    show layO (upd H a o) r b = H b
    rw [layO_ne h.2, upd_ne h.1]
theorem un_layO {fs ex : List Addr} {h : Heap} : ∀ {L : List (Addr × HO)} {H : Hp}, (∀ t ∈ L, H t.1 = none) → (L.map Prod.fst).Nodup → (∀ t ∈ L, h.objs.size ≤ t.1) → Un fs ex H (layO H L) h h
  | [], _, _, _, _ => Un.refl
  | (a, o) :: r, H, hn, nd, ge => by
    rw [List.map_cons, List.nodup_cons] at nd
    refine (Un.laid (fun _ _ q => q) (ge _ (List.mem_cons_self ..)) (hn _ (List.mem_cons_self ..))).trans (un_layO (fun t ht => ?_) nd.2 fun t ht => ge t (List.mem_cons_of_mem _ ht))
    rw [upd_ne (fun e : t.1 = a => nd.1 (by rw [← e]; exact List.mem_map.mpr ⟨t, ht, rfl⟩))]
    exact hn t (List.mem_cons_of_mem _ ht)
theorem hok_layO {P : Program} {w : World} {h : Heap} : ∀ {L : List (Addr × HO)} {H : Hp}, (∀ t ∈ L, H t.1 = none) → (L.map Prod.fst).Nodup → (∀ t ∈ L, ∀ H', ObjOk P w H' h t.1 t.2) → HOk P w H h → HOk P w (layO H L) h
  | [], _, _, _, _, x => x
  | (a, o) :: r, H, hn, nd, ok, x => by
    rw [List.map_cons, List.nodup_cons] at nd
    show HOk P w (layO (upd H a o) r) h
    refine hok_layO (L := r) (fun t ht => ?_) nd.2 (fun t ht => ok t (List.mem_cons_of_mem _ ht)) (HOk.laidN x (fun _ _ q => q) (hn _ (List.mem_cons_self ..)) (ok _ (List.mem_cons_self ..) _))
    rw [upd_ne (fun e : t.1 = a => nd.1 (by rw [← e]; exact List.mem_map.mpr ⟨t, ht, rfl⟩))]
    exact hn t (List.mem_cons_of_mem _ ht)
section
variable {X : Cx} {pins : List (Addr × Obj)} {σ : St} {H : Hp} {s : Shared} {h' : Heap}
theorem inv_layO {t' : Nat} (I : Inv X pins σ H s) (k : ∀ b u, s.heap.get? b = some u → h'.get? b = some u) {L : List (Addr × HO)} (nd : (L.map Prod.fst).Nodup) (ge : ∀ t ∈ L, s.heap.objs.size ≤ t.1) (ok : ∀ t ∈ L, ∀ H', ObjOk X.prog X.w H' h' t.1 t.2) :
    Inv X pins σ (layO H L) { s with heap := h', toks := t' } :=
  I.un ((un_layO (fun t ht => I.hok.fresh (ge t ht)) nd ge).trans (Un.kept k)) (hok_layO (fun t ht => I.hok.fresh (ge t ht)) nd ok (I.hok.kept k))
end
/-- the tuples of a zip -/
def zipO : List Addr → List V → List V → List (Addr × HO)
  | T :: Ts, x :: xs, y :: ys => (T, .tup [x, y]) :: zipO Ts xs ys
  | _, _, _ => []
theorem zipO_fst : ∀ {Ts : List Addr} {xs ys : List V}, Ts.length = xs.length → xs.length = ys.length → (zipO Ts xs ys).map Prod.fst = Ts
  | [], [], [], _, _ => rfl
  | T :: Ts, x :: xs, y :: ys, h, h' => by
    show T :: (zipO Ts xs ys).map Prod.fst = _
    rw [zipO_fst (by simpa using h) (by simpa using h')]
  | [], _ :: _, _, h, _ => by simp at h
  | _ :: _, [], _, h, _ => by simp at h
  | _, [], _ :: _, _, h => by simp at h
  | _, _ :: _, [], _, h => by simp at h
theorem zipO_mem : ∀ {Ts : List Addr} {xs ys : List V} {t : Addr × HO}, t ∈ zipO Ts xs ys → ∃ (j : Nat) (T : Addr) (x y : V), Ts[j]? = some T ∧ xs[j]? = some x ∧ ys[j]? = some y ∧ t = (T, .tup [x, y])
  | [], _, _, _, h => by simp [zipO] at h
  | _ :: _, [], _, _, h => by simp [zipO] at h
  | _ :: _, _ :: _, [], _, h => by simp [zipO] at h
  | T :: Ts, x :: xs, y :: ys, t, h => by
    rcases List.mem_cons.mp (show t ∈ (T, HO.tup [x, y]) :: zipO Ts xs ys from h) with rfl | h
    · exact ⟨0, T, x, y, rfl, rfl, rfl, rfl⟩
    · obtain ⟨j, a, b, c, h1, h2, h3, h4⟩ := zipO_mem h
      exact ⟨j + 1, a, b, c, by simpa using h1, by simpa using h2, by simpa using h3, h4⟩
section
variable {X : Cx}
theorem pe_listZip {e e2 : Expr} {ta : TA} {p p' pos pos' : Pos} (hc : X.calm = true) (gl : Gl X "list") (ml : X.mg "list" = none) (gz : Gl X "zip") (mz : X.mg "zip" = none) (ha : PA X [e, e2] ta)
    (hs : starEach [e, e2] X.env = (false, eval e X.env) :: starEach [e2] X.env := by rfl) (hpl : (backTo pos' (starEach [e2] X.env)).any (·.1) = false := by rfl)
    (na : starEach [.Call (.Name "zip" p') [e, e2] [] pos'] X.env = (false, eval (.Call (.Name "zip" p') [e, e2] [] pos') X.env) :: starEach [] X.env := by rfl) :
    PE X (.Call (.Name "list" p) [.Call (.Name "zip" p') [e, e2] [] pos'] [] pos) (fun σ H Q => ta σ H fun vs H1 => ∃ b1 b2 a b xs ys, vs = [.ref a, .ref b] ∧ SqB b1 X.K H1 a xs ∧ SqB b2 X.K H1 b ys ∧ xs.length = ys.length ∧
      ∀ q Ts, Ts.length = xs.length → Ts.Nodup → (∀ T ∈ Ts, H1 T = none) → H1 q = none → q ∉ Ts → Q (.ref q) (upd (layO H1 (zipO Ts xs ys)) q (.lst (Ts.map V.ref)))) := by
  refine ⟨fun pins s σ H Q I h => ?_⟩
  refine Call_ (ld_blt I gl ml boot_list (PyProof.Rows.callWith_type1 (args_cons ?_ na) na))
  refine Call_ (ld_blt I gz mz boot_zip (PyProof.Rows.callWith_type1 (thn (ha.run pos' pins s σ H _ I h) fun us s1 ⟨vs, H1, I1, r1, q1⟩ => ?_) hs hpl))
  obtain ⟨b1, b2, a, b, xs, ys, ex, hq, hq2, hlen, q⟩ := q1
  subst ex
  cases r1 with
  | cons r rr =>
    cases rr with
    | cons r' rr =>
      cases rr
      cases r
      cases r'
      obtain ⟨its, rv, p1, hz1⟩ := Nt.Inv.seqB I1 hq
      obtain ⟨its2, rv2, p2, hz2⟩ := Nt.Inv.seqB I1 hq2
      obtain ⟨o1, B1, hB1⟩ := beginsB b1 a its.toArray
      obtain ⟨o2, B2, hB2⟩ := beginsB b2 b its2.toArray
      have la : a < s1.heap.objs.size := by
        cases b1 with
        | true => obtain ⟨o, e, _⟩ := p1; exact Heap.lt_size e
        | false => obtain ⟨o, e, _⟩ := p1; exact Heap.lt_size e
      have lb : b < s1.heap.objs.size := by
        cases b2 with
        | true => obtain ⟨o, e, _⟩ := p2; exact Heap.lt_size e
        | false => obtain ⟨o, e, _⟩ := p2; exact Heap.lt_size e
      have up1 : ∀ {hp hp' : Heap} {b : Bool} {a : Addr} {its : Array Value}, ObB b hp a its → (∀ b o, hp.get? b = some o → hp'.get? b = some o) → ObB b hp' a its := fun {hp hp' b a its} x k => by
        cases b with
        | true => obtain ⟨o, e, r⟩ := x; exact ⟨o, k _ _ e, r⟩
        | false => obtain ⟨o, e, r⟩ := x; exact ⟨o, k _ _ e, r⟩
      refine zip_begins2 B1 B2 p1 p2 fun h' hz hTI hTO h1 h2 hsz hk => args_nil ?_
      have l1 := rv.length
      have l2 := rv2.length
      have it1 := hB1 _ _ h1
      have it2 := hB2 _ _ h2
      have pa1 := up1 p1 hk
      have pa2 := up1 p2 hk
      have n2 : its2.toArray.size = its.toArray.size := by simp; omega
      have Z : ZNew X.prog X.w X.A.in1.in1.in1 h' (s1.heap.objs.size + 4) (s1.heap.objs.size + 2) (s1.heap.objs.size + 3) s1.heap.objs.size (s1.heap.objs.size + 1) [s1.heap.objs.size, a] [s1.heap.objs.size + 1, b] its.toArray.size
          (fun i v => its.toArray[i]? = some v) (fun i v => its2.toArray[i]? = some v) (fun i h => ItB b1 h s1.heap.objs.size a i ∧ ObB b1 h a its.toArray) (fun i h => ItB b2 h (s1.heap.objs.size + 1) b i ∧ ObB b2 h b its2.toArray) :=
        ⟨(zap_of la lb).sep, drawsB (A := X.A.in1.in1.in1) (I1.ok.hd hc) b1 _ a (ObB.ne it1 pa1) its.toArray, n2 ▸ drawsB (A := X.A.in1.in1.in1) (I1.ok.hd hc) b2 _ b (ObB.ne it2 pa2) its2.toArray, hz, hTI, ⟨_, _, hTO⟩, ⟨it1, pa1⟩, ⟨it2, pa2⟩⟩
      have big : ∀ c, (c = s1.heap.objs.size + 4 ∨ c = s1.heap.objs.size + 2 ∨ c = s1.heap.objs.size + 3 ∨ c ∈ [s1.heap.objs.size, a] ∨ c ∈ [s1.heap.objs.size + 1, b]) → c < h'.objs.size := fun c hcx => by
        rw [hsz]
        simp only [List.mem_cons, List.not_mem_nil, or_false] at hcx
        have la' : (a : Nat) < s1.heap.objs.size := la
        have lb' : (b : Nat) < s1.heap.objs.size := lb
        rcases hcx with e | e | e | (e | e) | (e | e) <;> rw [e] <;> first
          | exact Nat.lt_of_lt_of_le la' (Nat.le_add_right _ _)
          | exact Nat.lt_of_lt_of_le lb' (Nat.le_add_right _ _)
          | exact Nat.add_lt_add_left (by decide) _
          | exact Nat.lt_add_of_pos_right (by decide)
      refine zip_call (s := { s1 with heap := h' }) (I1.ok.hd hc) Z big (by simp; omega) fun h'' tk acc c as hkeep hS hl hG hacc => ?_
      dsimp only at hkeep hS hG hacc ⊢
      have keep2 : ∀ c o, s1.heap.get? c = some o → h''.get? c = some o := fun c o e => by
        have hlt : (c : Nat) < s1.heap.objs.size := Heap.lt_size e
        have ne : ∀ k : Nat, (c : Nat) ≠ s1.heap.objs.size + k := fun k => Nat.ne_of_lt (Nat.lt_of_lt_of_le hlt (Nat.le_add_right _ _))
        exact hkeep c o (ne 4) (ne 3) (ne 0) (ne 1) (hk c o e)
      have hl' : as.length = xs.length := by rw [hl]; simp; omega
      have hge : ∀ T ∈ as, s1.heap.objs.size ≤ T := fun T hT => by
        have := hG.above T hT
        rw [hsz] at this
        exact Nat.le_of_lt (Nat.lt_of_le_of_lt (Nat.le_add_right _ _) this)
      have nd : as.Nodup := hG.rise.imp fun h => Nat.ne_of_lt h
      have hSn : h'.objs.size ∉ as := fun hm => Nat.lt_irrefl _ (hG.above _ hm)
      have hmap := zipO_fst (ys := ys) hl' hlen
      have I2 := inv_layO (t' := tk) (h' := h'') I1 keep2 (L := zipO as xs ys ++ [(h'.objs.size, .lst (as.map V.ref))]) (by
        rw [List.map_append, hmap]
        exact List.nodup_append.mpr ⟨nd, by simp, fun x hx y hy e => by
          simp at hy
          subst hy
          subst e
          exact hSn hx⟩) (fun t ht => by
        rcases List.mem_append.mp ht with ht | ht
        · obtain ⟨j, T, x, y, e1, _, _, rfl⟩ := zipO_mem ht
          exact hge T (List.mem_of_getElem? e1)
        · rw [List.mem_singleton.mp ht, hsz]
          exact Nat.le_add_right _ _) (fun t ht H' => by
        rcases List.mem_append.mp ht with ht | ht
        · obtain ⟨j, T, x, y, e1, e2, e3, rfl⟩ := zipO_mem ht
          obtain ⟨u, v, g1, g2, g3⟩ := hG.pairs j T e1
          obtain ⟨u', hu, ru⟩ := rv.get e2
          obtain ⟨v', hv, rv'⟩ := rv2.get e3
          have eu : u = u' := by
            have : its[j]? = some u := by simpa using g1
            rw [hu] at this; exact (Option.some.inj this).symm
          have ev : v = v' := by
            have : its2[j]? = some v := by simpa using g2
            rw [hv] at this; exact (Option.some.inj this).symm
          subst eu
          subst ev
          exact ⟨by show 2 ≤ sizeLine; decide, [u, v], .cons ru (.cons rv' .nil), ⟨_, g3, rfl, _, rfl⟩⟩
        · rw [List.mem_singleton.mp ht]
          refine ⟨by rw [List.length_map, hl']; exact hz1, acc.toList, c, by rw [hacc]; exact L2.vals_refs _, by rw [Array.toArray_toList]; exact hS⟩)
      have eL : ∀ (L : List (Addr × HO)) (H : Hp) (a : Addr) (o : HO), layO H (L ++ [(a, o)]) = upd (layO H L) a o := fun L => by
        induction L with
        | nil => intro H a o; rfl
        | cons t L ih => intro H a o; obtain ⟨c, o'⟩ := t; exact ih _ _ _
      rw [eL] at I2
      exact ⟨.ref h'.objs.size, _, I2, rfl, q _ as hl' nd (fun T hT => I1.hok.fresh (hge T hT)) (I1.hok.fresh (by rw [hsz]; exact Nat.le_add_right _ _)) hSn⟩
end
end Nt

namespace Nt
section
open PySem PyProof.Rows PySem.Calls HT
variable {prog : Program} {w : World} {A : Around} {E : Value → Shared → Prop} {s : Shared}
theorem adjust_rev (n : Nat) : Builtin.Slice.sliceAdjust none none (-1) (n : Int) = ((n : Int) - 1, -1) := rfl
theorem places_rev (n : Nat) : Builtin.Slice.slicePlaces ((n : Int) - 1) (-1) (-1) = n := by
  unfold Builtin.Slice.slicePlaces
  have h1 : ¬ ((-1 : Int) > 0) := by omega
  simp only [h1, if_false]
  have h2 : (- -1 : Int) = 1 := by omega
  rw [h2, Int.ediv_one]
  split <;> omega
theorem pick_rev (xs : Array Value) : ((List.range xs.size).filterMap fun (m : Nat) => xs[(((xs.size : Int) - 1) + (m : Int) * (-1)).toNat]?).toArray = xs.toList.reverse.toArray := by
  have h := PySem.W.krv_all xs
  have e : (List.range xs.size).filterMap (fun (m : Nat) => xs[(((xs.size : Int) - 1) + (m : Int) * (-1)).toNat]?) = ((List.range xs.size).map fun k => xs.size - 1 - k).filterMap (xs[·]?) := by
    rw [List.filterMap_map]
    congr 1
    funext m
    show xs[(((xs.size : Int) - 1) + (m : Int) * (-1)).toNat]? = xs[xs.size - 1 - m]?
    have : (((xs.size : Int) - 1) + (m : Int) * (-1)).toNat = xs.size - 1 - m := by omega
    rw [this]
  rw [e, PySem.W.krv_range, List.filterMap_reverse, h]
theorem getItem_tuple_rev {t sl : Addr} {items : Array Value} {vl vu vs : Value} {Q : Value → Shared → Prop} (ht : IsTup s.heap t items) (hs : s.heap.IsSliceOf sl vl vu vs) (pl : IsPart vl none) (pu : IsPart vu none) (ps : IsPart vs (some (-1)))
    (h : Q (.ref s.heap.objs.size) { s with heap := s.heap.push { cls := .type "tuple", data := .seq items.toList.reverse.toArray } }) (hsz : items.size ≤ sizeLine) : wpAny (model prog w) A (getItem (.ref t) (.ref sl)) Q E s := by
  have htake : sizeOk (.seq items.toList.reverse.toArray) := by
    show items.toList.reverse.toArray.size ≤ sizeLine
    rw [List.size_toArray, List.length_reverse, Array.length_toList]
    exact hsz
  obtain ⟨os, hos, hcs, hds⟩ := id hs
  have hTs : s.TypeIs (.ref sl) "slice" := ⟨os, hos, hcs⟩
  unfold getItem
  try with_reducible refine wpAny_holding ?_
  first | refine wpAny_bind (wpAny_pure ?_) | skip
  refine wpAny_bind (wpAny_sequenceKey ht.typeIs (by decide) ?_)
  refine wpAny_bind (wpAny_callSpecial?_slot (name := Str.ofString "__getitem__") ht.typeIs PyProof.Rows.slot_tuple_getitem
    (wpAny_call_entry PyProof.Rows.slot_tuple_getitem ht.typeIs entry_tuple_getitem ?_ (args_tuple_getitem _ _)))
  show wpAny _ _ (Builtin.Tuple.tupleItemsOf (.ref t) >>= _) _ _ s
  refine wpAny_bind (tupleItemsOf_ ht ?_)
  refine wpAny_bind (wpAny_typeOf hTs ?_)
  rw [if_pos (by decide)]
  refine wpAny_bind ?_
  unfold Builtin.Slice.sliceApplied Builtin.Slice.sliceFields
  refine wpAny_bind (wpAny_bind (wpAny_field hos hds (x := vl) rfl (wpAny_bind (wpAny_field hos hds (x := vu) rfl (wpAny_bind (wpAny_field hos hds (x := vs) rfl (wpAny_pure ?_)))))))
  refine wpAny_bind (slicePart_ ps ?_)
  show wpAny _ _ (if ((-1 : Int) == 0) = true then _ else _) _ _ s
  rw [if_neg (by decide)]
  refine wpAny_bind (slicePart_ pl (wpAny_bind (slicePart_ pu (wpAny_bind (wpAny_pure ?_)))))
  show wpAny _ _ (match Builtin.Slice.sliceAdjust none none (-1) (items.size : Int) with | (lo, hi) => pure (lo, (-1 : Int), Builtin.Slice.slicePlaces lo hi (-1))) _ _ s
  rw [adjust_rev items.size]
  show wpAny _ _ (pure (((items.size : Int) - 1), (-1 : Int), Builtin.Slice.slicePlaces ((items.size : Int) - 1) (-1) (-1))) _ _ s
  rw [places_rev]
  refine wpAny_pure ?_
  have hno : ¬ ((((items.size : Int) - 1) == 0 && (-1 : Int) == 1 && items.size == items.size) = true) := by
    rw [show ((-1 : Int) == 1) = false from rfl, Bool.and_false, Bool.false_and]
    exact Bool.false_ne_true
  show wpAny _ _ (if (((items.size : Int) - 1) == 0 && (-1 : Int) == 1 && items.size == items.size) = true then _ else _) _ _ s
  rw [if_neg hno, pick_rev]
  first
    | exact wpAny_bind (m := Builtin.Tuple.tupleExact _) (wpAny_newObj_type (wpAny_pure ⟨_, rfl, wpAny_pure h⟩) htake)
    | exact wpAny_bind (m := Builtin.Tuple.tupleExact _) (wpAny_newObj_type (wpAny_bind (wpAny_pure (wpAny_pure ⟨_, rfl, wpAny_pure h⟩))) htake)
    | exact wpAny_bind (wpAny_bind (m := Builtin.Tuple.tupleExact _) (wpAny_newObj_type (wpAny_pure (wpAny_pure ⟨_, rfl, wpAny_pure h⟩)) htake))
    | exact wpAny_bind (wpAny_bind (m := Builtin.Tuple.tupleExact _) (wpAny_newObj_type (wpAny_pure ⟨_, rfl, wpAny_pure h⟩) htake))
end
section
open PySem PySem.Spec L2
open PyProof.Rows hiding St
variable {X : Cx} {W : WX} {a b e : Expr} {ma mb me : Nv → M D} {pos p p2 : Pos} {es : List Expr} {mr : Nv → M (List D)}
/-! ### t[::-1] -/
def tRevT (K : PySem.W.Frag) (te : TE) : TE := fun σ H Q => te σ H fun x H1 => ∃ a xs, x = .ref a ∧ SqT K H1 a xs ∧ ∀ p, H1 p = none → Q (.ref p) (upd H1 p (.tup xs.reverse))
theorem pe_revT {e : Expr} {te : TE} {k : Nat} {p1 p2 p3 pos : Pos} (he : PE X e te) : PE X (.Subscript e (.Slice none none (some (.UnaryOp .USub (.Constant (.int 1) k p1) p2)) p3) pos) (tRevT X.K te) := by
  refine ⟨fun pins s σ H Q I h => ?_⟩
  refine Subscript_ (thn (he.run pins s σ H _ I h) fun v s1 ⟨x, H1, I1, r1, q1⟩ => ?_)
  obtain ⟨a, xs, ex, hx, q⟩ := q1
  subst ex
  cases r1
  have hst : PO X (some (.UnaryOp .USub (.Constant (.int 1) k p1) p2)) (tPart (tUn (rU fun i => .int (-i)) (tC (.int 1)))) := po_some (pe_un un_neg pe_int)
  refine wpAny_Slice (thn (po_none.run pins s1 σ H1 (fun o H2 => o = none ∧ H2 = H1) I1 ⟨rfl, rfl⟩) fun vl s2 ⟨l, H2, I2, pl, el, e2⟩ => ?_)
  subst el e2
  refine thn (po_none.run pins s2 σ H2 (fun o H3 => o = none ∧ H3 = H2) I2 ⟨rfl, rfl⟩) fun vu s3 ⟨u, H3, I3, pu, eu, e3⟩ => ?_
  subst eu e3
  refine thn (hst.run pins s3 σ H3 (fun o H4 => o = some (-1) ∧ H4 = H3) I3 ⟨1, rfl, -1, rfl, rfl, rfl⟩) fun vs s4 ⟨o, H4, I4, ps, eo, e4⟩ => ?_
  subst eo e4
  have I5 : Inv X pins σ H4 { s4 with heap := s4.heap.push { cls := .type "slice", data := .fields #[vl, vu, vs] } } := I4.kept (t' := s4.toks) fun b ob q => Heap.get?_push_of_some _ q
  obtain ⟨its, r, ht, hz⟩ := I5.tuple hx
  have hlen := r.length
  show wpAny (model X.prog X.w) X.A (subscriptTail e (.Slice none none (some (.UnaryOp .USub (.Constant (.int 1) k p1) p2)) p3) (.ref a) (.ref s4.heap.objs.size)) (EP X pins σ Q) X.xe { s4 with heap := s4.heap.push { cls := .type "slice", data := .fields #[vl, vu, vs] } }
  refine tail_any (ops := [.ref a, .ref s4.heap.objs.size]) ht.typeIs (PyProof.Rows.slot_tuple_getitem.lookup) ?_ (by with_unfolding_all rfl)
  refine getItem_tuple_rev ht (Heap.IsSliceOf.new _ vl vu vs) pl pu ps ?_ (by rw [List.size_toArray, ← hlen]; exact hz)
  refine ⟨.ref _, _, I5.laid (t' := s4.toks) (o := .tup xs.reverse) (fun b ob q => Heap.get?_push_of_some _ q) (Nat.le_refl _) ?_, rfl, q _ (I5.hok.fresh (Nat.le_refl _))⟩
  exact ⟨by rw [List.length_reverse]; exact hz, _, r.reverse, IsTup.new _ _⟩
def revD : D → Option D
  | .tup xs => some (.tup xs.reverse)
  | _ => none
def eRv (ma : Nv → M D) : Nv → M D := fun ρ => bnd (ma ρ) fun d => ask fun _ => revD d
theorem de_rev {k : Nat} {p1 p2 p3 pos : Pos} (ha : DE X W a ma) : DE X W (.Subscript a (.Slice none none (some (.UnaryOp .USub (.Constant (.int 1) k p1) p2)) p3) pos) (eRv ma) := by
  refine ⟨PEimp (pe_revT ha.pe) ?_⟩
  rintro σ H Q ⟨G, ψ, S, ρ, R, E, F⟩
  refine ⟨G, ψ, S, ρ, R, E, F.bnd fun d S1 G1 ψ1 H1 X1 R1 F1 v dv => ?_⟩
  obtain ⟨d', e, F2⟩ := F1.ask
  unfold revD at e
  split at e
  · cases e
    cases dv with
    | @tup ds vs q hq z t =>
      refine ⟨q, vs, rfl, Same.seqT R1.sub hq, fun p hp => ?_⟩
      obtain ⟨x1, x2, x3⟩ := new_tup R1 hp t.rev (by rw [List.length_reverse]; exact z)
      exact F2.done x1 x2 _ x3
  · cases e
/-! ### x.upper() -/
def upD : D → Option D
  | .str z => if z.length ≤ 5592405 then some (.str (Txt.upper z)) else none
  | _ => none
def eUp (ma : Nv → M D) : Nv → M D := fun ρ => bnd (ma ρ) fun d => ask fun _ => upD d
theorem de_upper {apos : Pos} (ha : DE X W a ma) (hbase : attributeBase a "upper" X.env (eval a X.env) = eval a X.env := by rfl) (hline : (apos.endLine == pos.line) = true := by rfl) : DE X W (.Call (.Attribute a "upper" apos) [] [] pos) (eUp ma) := by
  refine ⟨PEimp (pe_upper ha.pe hbase hline) ?_⟩
  rintro σ H Q ⟨G, ψ, S, ρ, R, E, F⟩
  refine ⟨G, ψ, S, ρ, R, E, F.bnd fun d S1 G1 ψ1 H1 X1 R1 F1 v dv => ?_⟩
  obtain ⟨d', e, F2⟩ := F1.ask
  unfold upD at e
  split at e
  · split at e
    · rename_i z hz
      cases e
      cases dv
      exact ⟨⟨z, rfl⟩, z, rfl, rfl, hz, F2.done Ext.refl R1 _ (.str _)⟩
    · cases e
  · cases e
/-! ### {} and {k: v} that stay as they are -/
def eD0 : Nv → M D := fun _ => ret (.dct [])
theorem de_d0 : DE X W (.Dict [] [] pos) eD0 := by
  refine ⟨PEimp pe_dnewK ?_⟩
  rintro σ H Q ⟨G, ψ, S, ρ, R, E, F⟩ p hp
  have x := Ext.lay (o := .dK []) R hp
  exact F.done x (R.lay hp) _ (.dct upd_same (Nat.zero_le _) .nil)
/-- {text: int} -/
def eD1 (k : Str) (i : Int) : Nv → M D := fun _ => ret (.dct [(.str k, .int i)])
theorem de_d1 {k : Str} {i : Int} {n1 n2 : Nat} : DE X W (.Dict [some (.Constant (.str k) n1 p)] [.Constant (.int i) n2 p2] pos) (eD1 k i) := by
  refine ⟨PEimp (pe_disp (trs := [(tC (.str k), tC (.int i))]) (pps_cons pe_str pe_int pps_nil) rfl rfl (by simp) (by show 1 ≤ 15; decide)) ?_⟩
  rintro σ H Q ⟨G, ψ, S, ρ, R, E, F⟩ p hp
  refine ⟨upd_same, [(Sum.inr k, .int i)], rfl, by show 1 ≤ 15; decide, ?_⟩
  have R1 := R.priv (o := .dK []) (R.gfree hp) (R.notMem hp)
  have e2 : upd (upd H p (.dK [])) p (.dK (mergeK [] [(Sum.inr k, V.int i)])) = upd H p (.dK [(Sum.inr k, V.int i)]) := by
    funext b
    by_cases hb : b = p
    · subst hb; rw [upd_same, upd_same]; rfl
    · rw [upd_ne hb, upd_ne hb, upd_ne hb]
  rw [e2]
  have x := Ext.lay (o := .dK [(Sum.inr k, V.int i)]) R hp
  exact F.done x (R.lay hp) _ (.dct upd_same (by show 1 ≤ sizeLine; decide) (.cons (.str k) (.int i) .nil))
/-! ### list(range(a, b)) -/
def rgL (ma mb : Nv → M D) : Nv → M (List D) := fun ρ => bnd (ma ρ) fun x => bnd (mb ρ) fun y => ask fun _ => match x, y with
  | .int a, .int b => if 0 ≤ a ∧ a ≤ 16777216 ∧ 0 ≤ b ∧ b ≤ 16777216 then some ((List.range (b - a).toNat).map fun i => .int (a + (i : Nat))) else none
  | _, _ => none
theorem DVs.rg {K : PySem.W.Frag} {G : Hp} {ψ : List Addr} {a : Int} : ∀ l : List Nat, DVs K G ψ (l.map fun i => .int (a + (i : Nat))) (l.map fun i => V.int (a + (i : Nat)))
  | [] => .nil
  | _ :: l => .cons (.int _) (DVs.rg l)
theorem dn_rg {p' pos' : Pos} (hc : X.calm = true) (ml : X.mg "list" = none) (mr : X.mg "range" = none) (ha : DE X W a ma) (hb : DE X W b mb) (gl : Gl X "list" := by rfl) (gr : Gl X "range" := by rfl)
    (na : starEach [a, b] X.env = (false, eval a X.env) :: starEach [b] X.env := by rfl) (nb : starEach [b] X.env = (false, eval b X.env) :: starEach [] X.env := by rfl) (hp : (backTo pos' (starEach [b] X.env)).any (·.1) = false := by rfl)
    (ne : starEach [.Call (.Name "range" p') [a, b] [] pos'] X.env = (false, eval (.Call (.Name "range" p') [a, b] [] pos') X.env) :: starEach [] X.env := by rfl) :
    DN X W (.Call (.Name "list" p) [.Call (.Name "range" p') [a, b] [] pos'] [] pos) (rgL ma mb) := by
  refine ⟨PEimp (pe_listRg hc gl ml (prg_2 gr mr ha.pe hb.pe na nb hp) ne) ?_⟩
  rintro σ H Q ⟨G, ψ, S, ρ, R, E, F⟩
  refine ⟨G, ψ, S, ρ, R, E, F.bnd fun x S1 G1 ψ1 H1 X1 R1 F1 v dv => ⟨G1, ψ1, S1, ρ, R1, E.up X1, F1.bnd fun y S2 G2 ψ2 H2 X2 R2 F2 u du => ?_⟩⟩
  obtain ⟨es, e, F3⟩ := F2.ask
  split at e
  · rename_i i j
    split at e
    · rename_i hr
      cases e
      cases dv
      cases du
      refine ⟨i, j, rfl, rfl, RgOk.of_le hr.1 hr.2.2.2 hr.2.1 hr.2.2.1, fun q hq => ?_⟩
      have hz : (rgV i j).length ≤ sizeLine := by rw [rgV_length, sizeLine_eq]; omega
      exact F3.done (Ext.laid hq) (R2.priv (R2.gfree hq) (R2.notMem hq)) q (rgV i j) (DVs.rg _) hz ((X1.trans X2).back R R2 hq) upd_same (R2.gfree hq) (R2.notMem hq)
    · cases e
  · cases e
/-! ### list(zip(a, b)), of one length -/
def zpL (mr : Nv → M (List D)) : Nv → M (List D) := fun ρ => bnd (mr ρ) fun ds => ask fun S => match ds with
  | [x, y] => (seqD S x).bind fun xs => (seqD S y).bind fun ys => if xs.length = ys.length then some (List.zipWith (fun x y => .tup [x, y]) xs ys) else none
  | _ => none
theorem lay_tups {K : PySem.W.Frag} {mg : Str → Option Value} {ψ : List Addr} {S : Sto} : ∀ {Ts : List Addr} {xs ys : List V} {dx dy : List D} {G H : Hp}, Rep K mg G ψ S H → DVs K G ψ dx xs → DVs K G ψ dy ys → Ts.length = xs.length → xs.length = ys.length → Ts.Nodup → (∀ T ∈ Ts, H T = none) →
    ∃ G', Ext G ψ H G' ψ (layO H (zipO Ts xs ys)) ∧ Rep K mg G' ψ S (layO H (zipO Ts xs ys)) ∧ DVs K G' ψ (List.zipWith (fun x y => .tup [x, y]) dx dy) (Ts.map V.ref)
  | [], [], [], _, _, G, H, R, .nil, .nil, _, _, _, _ => ⟨G, Ext.refl, R, .nil⟩
  | T :: Ts, x :: xs, y :: ys, _, _, G, H, R, .cons r1 t1, .cons r2 t2, h1, h2, nd, fr => by
    rw [List.nodup_cons] at nd
    obtain ⟨x1, x2, x3⟩ := new_tup R (fr T (List.mem_cons_self ..)) (.cons r1 (.cons r2 .nil)) (by show 2 ≤ sizeLine; decide)
    obtain ⟨G', y1, y2, y3⟩ := lay_tups (Ts := Ts) x2 (x1.dvs t1) (x1.dvs t2) (by simpa using h1) (by simpa using h2) nd.2 fun U hU => by
      rw [upd_ne (fun e : U = T => nd.1 (e ▸ hU))]
      exact fr U (List.mem_cons_of_mem _ hU)
    exact ⟨G', x1.trans y1, y2, .cons (y1.dv x3) y3⟩
  | [], _ :: _, _, _, _, _, _, _, _, _, h, _, _, _ => by simp at h
  | _ :: _, [], _, _, _, _, _, _, _, _, h, _, _, _ => by simp at h
  | _, [], _ :: _, _, _, _, _, _, _, _, _, h, _, _ => by simp at h
  | _, _ :: _, [], _, _, _, _, _, _, _, _, h, _, _ => by simp at h
theorem seqB_of {K : PySem.W.Frag} {H : Hp} {p : Addr} {vs : List V} (h : SqT K H p vs ∨ SqL K H p vs) : ∃ b, SqB b K H p vs := by
  rcases h with h | h
  · exact ⟨false, h⟩
  · exact ⟨true, h⟩
theorem dn_zip {p' pos' : Pos} (hc : X.calm = true) (ml : X.mg "list" = none) (mz : X.mg "zip" = none) (ha : DA X W [a, b] mr) (gl : Gl X "list" := by rfl) (gz : Gl X "zip" := by rfl)
    (hs : starEach [a, b] X.env = (false, eval a X.env) :: starEach [b] X.env := by rfl) (hpl : (backTo pos' (starEach [b] X.env)).any (·.1) = false := by rfl)
    (na : starEach [.Call (.Name "zip" p') [a, b] [] pos'] X.env = (false, eval (.Call (.Name "zip" p') [a, b] [] pos') X.env) :: starEach [] X.env := by rfl) :
    DN X W (.Call (.Name "list" p) [.Call (.Name "zip" p') [a, b] [] pos'] [] pos) (zpL mr) := by
  refine ⟨PEimp (pe_listZip hc gl ml gz mz ha.pa hs hpl na) ?_⟩
  rintro σ H Q ⟨G, ψ, S, ρ, R, E, F⟩
  refine ⟨G, ψ, S, ρ, R, E, F.bnd fun ds S1 G1 ψ1 H1 X1 R1 F1 vs dvs => ?_⟩
  obtain ⟨es, e, F2⟩ := F1.ask
  split at e
  · rename_i x y
    obtain ⟨v, u, rfl, r1, r2⟩ := dvs.two
    cases q1 : seqD S1 x with
    | none => rw [q1] at e; cases e
    | some xs =>
      rw [q1, Option.bind_some] at e
      cases q2 : seqD S1 y with
      | none => rw [q2] at e; cases e
      | some ys =>
        rw [q2, Option.bind_some] at e
        split at e
        · rename_i hlen
          cases e
          obtain ⟨a1, vs1, rfl, s1, z1, t1⟩ := seqD_ok R1 r1 q1
          obtain ⟨a2, vs2, rfl, s2, z2, t2⟩ := seqD_ok R1 r2 q2
          obtain ⟨b1, h1⟩ := seqB_of s1
          obtain ⟨b2, h2⟩ := seqB_of s2
          have hl : vs1.length = vs2.length := by rw [← t1.length, ← t2.length]; exact hlen
          refine ⟨b1, b2, a1, a2, vs1, vs2, rfl, h1, h2, hl, fun q Ts hT nd fr hq hn => ?_⟩
          obtain ⟨G', y1, y2, y3⟩ := lay_tups R1 t1 t2 hT hl nd fr
          have hq' : layO H1 (zipO Ts vs1 vs2) q = none := by
            rw [layO_ne (by rw [zipO_fst hT hl]; exact hn)]; exact hq
          exact F2.done (y1.trans (Ext.laid hq')) (y2.priv (y2.gfree hq') (y2.notMem hq')) q _ y3 (by rw [List.length_map, hT]; exact z1) (X1.back R R1 hq) upd_same (y2.gfree hq') (y2.notMem hq')
        · cases e
  · cases e
end
end Nt

namespace Nt
open PySem PySem.Spec L2
open PyProof.Rows hiding St
open PySem.W (alike alikeAll dataLe EachIs AllAlike Sortable)

def tup1 : PyData → Bool
  | .tuple (_ :: _) => true
  | _ => false
def isTupP : PyData → Bool
  | .tuple _ => true
  | _ => false
def plainP : PyData → Bool
  | .none => false
  | .tuple _ => false
  | _ => true
def headE : List PyData → Bool
  | .tuple [] :: r => r.all isTupP
  | _ => false
def okS (ps : List PyData) : Bool := (ps.all fun p => ps.all fun q => alike p q) && (ps.all tup1 || ps.all plainP || headE ps) && ps.all fun p => decide (p.depth ≤ 60)
theorem okS_ok {ps : List PyData} (h : okS ps = true) : AllAlike ps ∧ (Sortable ps ∨ Tupled ps) ∧ ∀ p ∈ ps, p.depth ≤ 60 := by
  unfold okS at h
  rw [Bool.and_eq_true, Bool.and_eq_true, Bool.or_eq_true, Bool.or_eq_true] at h
  obtain ⟨⟨h1, h2⟩, h3⟩ := h
  refine ⟨fun d hd d' hd' => List.all_eq_true.mp (List.all_eq_true.mp h1 d hd) d' hd', ?_, fun p hp => by simpa using List.all_eq_true.mp h3 p hp⟩
  rcases h2 with (h2 | h2) | h2
  · refine .inl (.inl fun d hd => ?_)
    have := List.all_eq_true.mp h2 d hd
    unfold tup1 at this
    split at this
    · exact ⟨_, _, rfl⟩
    · cases this
  · refine .inl (.inr fun d hd => ?_)
    have := List.all_eq_true.mp h2 d hd
    unfold plainP at this
    refine ⟨fun e => ?_, fun xs e => ?_⟩ <;> (subst e; cases this)
  · refine .inr ?_
    unfold headE at h2
    split at h2
    · rename_i r
      refine ⟨r, rfl, fun d hd => ?_⟩
      have := List.all_eq_true.mp h2 d hd
      unfold isTupP at this
      split at this
      · exact ⟨_, rfl⟩
      · cases this
    · cases h2
noncomputable def sortP (xs : List (D × PyData)) : List D := (xs.mergeSort (dataLe false Prod.snd)).map Prod.fst
noncomputable def sortD : FN := fun S ds => match ds with
  | [d] => (rdlD S d).bind fun xs => (toPs S xs).bind fun ps => if okS ps = true then some (sortP (xs.zip ps)) else none
  | _ => none
theorem toPs_len {S : Sto} : ∀ {ds : List D} {ps : List PyData}, toPs S ds = some ps → ds.length = ps.length
  | [], ps, e => by simp [toPs] at e; subst e; rfl
  | d :: ds, ps, e => by
    unfold toPs at e
    cases q : toP S d with
    | none => rw [q] at e; cases e
    | some p =>
      rw [q, Option.bind_some] at e
      cases q2 : toPs S ds with
      | none => rw [q2] at e; cases e
      | some qs => rw [q2] at e; cases e; rw [List.length_cons, List.length_cons, toPs_len q2]
section
variable {X : Cx}
theorem each_srt {K : PySem.W.Frag} {mg : Str → Option Value} {G : Hp} {ψ : List Addr} {S : Sto} {H : Hp} (R : Rep K mg G ψ S H) : ∀ {ds : List D} {vs : List V} {its : List Value} {ps : List PyData}, DVs K G ψ ds vs → Vals vs its → toPs S ds = some ps →
    EachIs (fun v (b : D × PyData) => (∃ x, DV K G ψ b.1 x ∧ RelV x v) ∧ ∃ x, Dp K H x b.2 ∧ RelV x v) its (ds.zip ps)
  | _, _, _, _, .nil, .nil, e => by simp [toPs] at e; subst e; exact .nil
  | d :: ds, _, _, ps, .cons r t, .cons rv tv, e => by
    unfold toPs at e
    cases q : toP S d with
    | none => rw [q] at e; cases e
    | some p =>
      rw [q, Option.bind_some] at e
      cases q2 : toPs S ds with
      | none => rw [q2] at e; cases e
      | some qs =>
        rw [q2] at e
        cases e
        exact .cons ⟨⟨_, r, rv⟩, _, toP_ok R r q, rv⟩ (each_srt R t tv q2)
theorem each_back {K : PySem.W.Frag} {G : Hp} {ψ : List Addr} : ∀ {its : List Value} {bs : List (D × PyData)}, EachIs (fun v (b : D × PyData) => ∃ x, DV K G ψ b.1 x ∧ RelV x v) its bs → ∃ vs, DVs K G ψ (bs.map Prod.fst) vs ∧ Vals vs its
  | _, _, .nil => ⟨[], .nil, .nil⟩
  | _, _, .cons ⟨x, r, rv⟩ t => by
    obtain ⟨vs, h1, h2⟩ := each_back t
    exact ⟨x :: vs, .cons r h1, .cons rv h2⟩
theorem cn_sorted (hu : X.A.units + 64 < cLine) : CallN X (.builtin "sorted") sortD := by
  rintro pins s σ H xs us Q I rv ⟨G, ψ, S, ds, es, R, r, e, k⟩
  unfold sortD at e
  split at e
  · rename_i d0
    obtain ⟨v, rfl, r1⟩ := r.one
    cases q1 : rdlD S d0 with
    | none => rw [q1] at e; cases e
    | some ys =>
      rw [q1, Option.bind_some] at e
      cases q2 : toPs S ys with
      | none => rw [q2] at e; cases e
      | some ps =>
        rw [q2, Option.bind_some] at e
        split at e
        · rename_i hok
          cases e
          obtain ⟨h1, h2, h3⟩ := okS_ok hok
          obtain ⟨p, vs, rfl, hq, z, t⟩ := rdlD_ok R r1 q1
          obtain ⟨its, rw', hl, _⟩ := I.list hq
          rw [Vals.ref1 rv]
          have hlen := toPs_len q2
          have hm : (ys.zip ps).map Prod.snd = ps := List.map_snd_zip (by rw [hlen]; exact Nat.le_refl _)
          have ea := each_srt R t rw' q2
          have hz : (ys.zip ps).length ≤ sizeLine := by rw [List.length_zip, ← hlen, Nat.min_self, t.length]; exact z
          refine sorted_any (enc := Prod.snd) (bs := ys.zip ps) hl.isList (ea.mono fun _ _ h => h.1) (ea.mono fun u b h => let ⟨x, dp, ru⟩ := h.2; Dp.reads I b.2 x u dp ru) (hm.symm ▸ h1) (hm.symm ▸ h2) hz (fun b hb => ?_) fun out ho eo => ?_
          · have := h3 b.2 (by rw [← hm]; exact List.mem_map.mpr ⟨b, hb, rfl⟩)
            omega
          · obtain ⟨vs', g1, g2⟩ := each_back eo
            obtain ⟨ep, he'⟩ := PyProof.Rows.sortedAll_at s.heap its out.toArray
            have hl' : vs'.length ≤ sizeLine := by rw [g2.length, ho]; exact hz
            exact ⟨.ref _, upd H (s.heap.objs.size + 1) (.lst vs'), I.laid (t' := s.toks) (fun _ _ => PyProof.Rows.sortedAll_old) (Nat.le_succ _) ⟨hl', out, ep, g2, he'⟩, rfl, k _ vs' g1 hl' (I.hok.fresh (Nat.le_succ _))⟩
        · cases e
  · cases e
end
end Nt

namespace Nt
open PySem PySem.Spec L2
open PyProof.Rows hiding St

section
variable {X : Cx} {W : WX} {a b e : Expr} {ma mb me : Nv → M D} {pos p p2 : Pos} {es : List Expr} {mr : Nv → M (List D)}
theorem tkz {s : Shared} {H : Hp} {scope : Scope} {cenv : Env} {fp : List Addr} : Takes (X.blk s H scope cenv fp) W0 := fun u s' ⟨_, _, _, _, _, _, _, _, _, _, _, _, _, _, _, _, w⟩ => w.elim
theorem Cz.hu {k : Nat} (c : Cz X W k) : X.A.units + 64 < cLine := c.room.units
theorem dss_bad {b : List Stmt} : DSs X W b (fun _ _ => .bad) := ⟨⟨fun pins s σ H D I h => by
  obtain ⟨_, _, _, _, _, _, F⟩ := h
  exact F.elim⟩⟩
def eNg (ma : Nv → M D) : Nv → M D := fun ρ => bnd (ma ρ) fun d => ask fun _ => match d with | .int i => some (.int (-i)) | _ => none
theorem de_neg (ha : DE X W a ma) : DE X W (.UnaryOp .USub a pos) (eNg ma) := by
  refine ⟨PEimp (pe_un un_neg ha.pe) ?_⟩
  rintro σ H Q ⟨G, ψ, S, ρ, R, E, F⟩
  refine ⟨G, ψ, S, ρ, R, E, F.bnd fun d S1 G1 ψ1 H1 X1 R1 F1 v dv => ?_⟩
  obtain ⟨d', e, F2⟩ := F1.ask
  split at e
  · cases e
    cases dv
    exact ⟨_, rfl, F2.done Ext.refl R1 _ (.int _)⟩
  · cases e
theorem de_gstr {x z : Str} (h : ∃ t, X.mg x = some (.str z t)) (hg : Gl X x := by rfl) (hdb : (x == ("__debug__" : Str)) = false := by decide) : DE X W (.Name x pos) (eC (.str z)) := by
  obtain ⟨t, h⟩ := h
  exact de_glob (v := .str z) hg h ⟨t, rfl⟩ (fun _ _ => .str z) hdb
theorem de_gint {x : Str} {i : Int} (h : ∃ t, X.mg x = some (.int i t)) (hg : Gl X x := by rfl) (hdb : (x == ("__debug__" : Str)) = false := by decide) : DE X W (.Name x pos) (eC (.int i)) := by
  obtain ⟨t, h⟩ := h
  exact de_glob (v := .int i) hg h ⟨t, rfl⟩ (fun _ _ => .int i) hdb
def eMt1 (f : FM) (mo : Nv → M D) (mr : Nv → M (List D)) : Nv → M D := fun ρ => bnd (mo ρ) fun r => bnd (ask fun S => (lstD S r).map fun _ => ()) fun _ => bnd (mr ρ) fun ds => mtM f r ds
def eMt0 (f : FM) (mo : Nv → M D) : Nv → M D := fun ρ => bnd (mo ρ) fun r => bnd (ask fun S => (lstD S r).map fun _ => ()) fun _ => mtM f r []
theorem de_cl {k j np : Nat} {x : Str} {ps : List Str} {m : List D → M D} (d : Dn X.prog X.w X.K X.mg X.base j x ps m) (tk : Takes X W) (hr : Room k X.A) (ha : DA X W (a :: es) mr) (hg : Gl X x := by rfl) (hk : j ≤ k := by decide) (hdb : (x == ("__debug__" : Str)) = false := by decide)
    (he : starEach (a :: es) X.env = (false, eval a X.env) :: starEach es X.env := by rfl) (hpl : (backTo pos (starEach es X.env)).any (·.1) = false := by rfl) (hnp : ps.length = np := by rfl) : DE X W (.Call (.Name x p) (a :: es) [] pos) (eCall np m mr) :=
  hnp ▸ de_call d tk hr hg hk ha hdb he hpl
theorem de_cl0 {k j np : Nat} {x : Str} {ps : List Str} {m : List D → M D} (d : Dn X.prog X.w X.K X.mg X.base j x ps m) (tk : Takes X W) (hr : Room k X.A) (hg : Gl X x := by rfl) (hk : j ≤ k := by decide) (hdb : (x == ("__debug__" : Str)) = false := by decide) (hnp : ps.length = np := by rfl) : DE X W (.Call (.Name x p) [] [] pos) (eCall np m aNil) :=
  hnp ▸ de_call0 d tk hr hg hk hdb
theorem de_mkc {k j np : Nat} {x : Str} {ps : List Str} {m : List D → M D} (d : DC X.prog X.w X.K X.mg X.base j x ps m) (tk : Takes X W) (hr : Room k X.A) (ha : DA X W (a :: es) mr) (hg : Gl X x := by rfl) (hk : j + 1 ≤ k := by decide) (hdb : (x == ("__debug__" : Str)) = false := by decide)
    (he : starEach (a :: es) X.env = (false, eval a X.env) :: starEach es X.env := by rfl) (hpl : (backTo pos (starEach es X.env)).any (·.1) = false := by rfl) (hnp : ps.length = np := by rfl) : DE X W (.Call (.Name x p) (a :: es) [] pos) (eMk x np m mr) :=
  hnp ▸ de_mk d tk hr hg hk ha hdb he hpl
theorem de_mth {k j np : Nat} {c m : Str} {ps : List Str} {f : List D → M D} {o : Expr} {mo : Nv → M D} {apos : Pos} {pl : Sem Bool} (d : DM X.prog X.w X.K X.mg X.base j c m ps f) (tk : Takes X W) (hr : Room k X.A) (ho : DE X W o mo) (ha : DA X W (a :: es) mr) (hk : j ≤ k := by decide)
    (he : starEach (a :: es) X.env = (false, eval a X.env) :: starEach es X.env := by rfl) (hpl : (backTo pos (starEach es X.env)).any (·.1) = false := by rfl)
    (ht : eval (.Call (.Attribute o m apos) (a :: es) [] pos) X.env = (do
      let ov ← eval o X.env
      standAt apos.atName
      let (f, first) ← holding [ov] (getMethod ov m pl)
      callWith pos f first (backTo pos (starEach (a :: es) X.env)) (backToKw pos (keywordEach [] X.env))) := by rfl) (hnp : ps.length = np := by rfl) : DE X W (.Call (.Attribute o m apos) (a :: es) [] pos) (eMe c m np f mo mr) :=
  hnp ▸ de_me d tk hr hk ho ha he hpl ht
theorem de_mth0 {k j np : Nat} {c m : Str} {ps : List Str} {f : List D → M D} {o : Expr} {mo : Nv → M D} {apos : Pos} {pl : Sem Bool} (d : DM X.prog X.w X.K X.mg X.base j c m ps f) (tk : Takes X W) (hr : Room k X.A) (ho : DE X W o mo) (hk : j ≤ k := by decide)
    (ht : eval (.Call (.Attribute o m apos) [] [] pos) X.env = (do
      let ov ← eval o X.env
      standAt apos.atName
      let (f, first) ← holding [ov] (getMethod ov m pl)
      callWith pos f first (backTo pos (starEach [] X.env)) (backToKw pos (keywordEach [] X.env))) := by rfl) (hnp : ps.length = np := by rfl) : DE X W (.Call (.Attribute o m apos) [] [] pos) (eMe c m np f mo aNil) :=
  hnp ▸ de_me0 d tk hr hk ho ht
theorem di_en {e : Expr} {me : Nv → M D} {p tpos : Pos} {elts : List Expr} {kk : Nat} (hm : X.mg "enumerate" = none) (h : DE X W e me) (hg : Gl X "enumerate" := by rfl) (hs : starEach [e] X.env = [(false, eval e X.env)] := by rfl) :
    DI X W (.Tuple elts kk tpos) (.Call (.Name "enumerate" p) [e] [] pos) (iEnu me) := di_enum hg hm h hs
theorem di_zp {e e2 : Expr} {me me2 : Nv → M D} {p tpos : Pos} {elts : List Expr} {kk : Nat} (hm : X.mg "zip" = none) (h : DE X W e me) (h2 : DE X W e2 me2) (hg : Gl X "zip" := by rfl)
    (hs : starEach [e, e2] X.env = (false, eval e X.env) :: starEach [e2] X.env := by rfl) (hs2 : starEach [e2] X.env = (false, eval e2 X.env) :: starEach [] X.env := by rfl) (hpl : (backTo pos (starEach [e2] X.env)).any (·.1) = false := by rfl) :
    DI X W (.Tuple elts kk tpos) (.Call (.Name "zip" p) [e, e2] [] pos) (iZp me me2) := di_zip hg hm h h2 hs hs2 hpl
theorem di_r1 {tg e : Expr} {me : Nv → M D} {p : Pos} (hm : X.mg "range" = none) (h : DE X W e me) (hg : Gl X "range" := by rfl) (hs : starEach [e] X.env = [(false, eval e X.env)] := by rfl) : DI X W tg (.Call (.Name "range" p) [e] [] pos) (iRg1 me) := di_rng1 hg hm h hs
theorem di_r2 {tg e e2 : Expr} {me me2 : Nv → M D} {p : Pos} (hm : X.mg "range" = none) (h : DE X W e me) (h2 : DE X W e2 me2) (hg : Gl X "range" := by rfl) (hs : starEach [e, e2] X.env = [(false, eval e X.env), (false, eval e2 X.env)] := by rfl) (hs2 : starEach [e2] X.env = [(false, eval e2 X.env)] := by rfl)
    (hsa : starEach [e, e2] X.env = (false, eval e X.env) :: starEach [e2] X.env := by rfl) (hsb : starEach [e2] X.env = (false, eval e2 X.env) :: starEach [] X.env := by rfl) : DI X W tg (.Call (.Name "range" p) [e, e2] [] pos) (iRg me me2) := di_rng2 hg hm h h2 hs hs2 hsa hsb
theorem cls1 {c f : Str} (h : ClsA X c f) : ∀ c' ∈ [c], ClsA X c' f := fun c' hc => by
  rw [List.mem_singleton] at hc
  subst hc
  exact h
end
section
variable {P : Program} {w : World} {K : PySem.W.Frag} {mg : Str → Option Value} {base : Heap}
theorem fn_okD {x qual : Str} {params : Arguments} {body : List Stmt} {scope : Scope} {dvs : List V} {kws : List (Str × V)} {f : Addr} {fd : FuncData} {N ps : List Str} {k : Nat} {b : SM} (F : FunD K x qual params body scope dvs kws f fd) (Sc : FnScope N ps scope)
    (hb : ∀ (cdv : Value) (A : Around) (outer : List Env) (s : Shared) (H : Hp) (E : XK), Cz (cxOf (L2.CX P w) P w K mg base N qual scope f cdv A outer s H E) (fun cls d _ H => E cls d H) k →
      DSs (cxOf (L2.CX P w) P w K mg base N qual scope f cdv A outer s H E) (fun cls d _ H => E cls d H) body b) :
    FnOk P w K mg base (L2.CX P w) (k + 1) f fd ps (spD K mg ps.length (fnB N.length ps.length b)) := by
  refine F.ok Sc (fun vs H Q E h => h.1) fun cdv A outer s H vs Q E hr h => ?_
  refine ⟨_, (hb cdv A outer s H E ⟨takes_of rfl rfl rfl rfl, passes_of rfl, rfl, hr⟩).pss, ?_⟩
  obtain ⟨hl, G, ψ, S, ds, R, dvs, F⟩ := h
  refine ⟨G, ψ, S, _, R, evl_start (N := N) dvs, ?_⟩
  unfold fnB at F
  rw [if_pos (dvs.length.trans hl)] at F
  cases e : b (ds.map some ++ List.replicate (N.length - ds.length) none) S with
  | ok f S' =>
    rw [e] at F
    cases f with
    | nx ρ => exact fun G2 ψ2 H2 σ y R2 _ => F _ _ _ y R2 _ .non
    | rt d => exact fun G2 ψ2 H2 v y R2 dv => F _ _ _ y R2 _ dv
    | bk ρ => exact F.elim
    | ct ρ => exact F.elim
  | ex c fs ρ S' => rw [e] at F; exact fun G2 ψ2 H2 σ cls dx y R2 _ q => F _ _ _ cls dx y R2 q
  | bad => rw [e] at F; exact F.elim
/-- the facts that a head tells -/
structure Hy (fa : List He.Fa) (fn : List He.DefD) (K : PySem.W.Frag) (mg : Str → Option Value) : Prop where
  c : He.SaysD fa fn K
  h : ∃ h : Heap, K.In h ∧ h.Ns mainGlobals mg
section
variable {fa : List He.Fa} {fn : List He.DefD}
theorem Hy.glo (y : Hy fa fn K mg) (i : Nat) {x : Str} (e : fa[i]? = some (.glo x) := by rfl) : mg x = some (.ref (He.ga K x)) := let ⟨_, X, G⟩ := y.h; He.glo_ok X G (y.c.fact i e)
theorem Hy.free (y : Hy fa fn K mg) (i : Nat) {x : Str} (e : fa[i]? = some (.free x) := by rfl) : mg x = none := let ⟨_, X, G⟩ := y.h; He.free_ok X G (y.c.fact i e)
theorem Hy.str (y : Hy fa fn K mg) (i : Nat) {x z : Str} (e : fa[i]? = some (.str x z) := by rfl) : ∃ t, mg x = some (.str z t) := let ⟨_, X, G⟩ := y.h; He.str_ok X G (y.c.fact i e)
theorem Hy.int (y : Hy fa fn K mg) (i : Nat) {x : Str} {z : Int} (e : fa[i]? = some (.int x z) := by rfl) : ∃ t, mg x = some (.int z t) := let ⟨_, X, G⟩ := y.h; He.int_ok X G (y.c.fact i e)
theorem Hy.cls (y : Hy fa fn K mg) (i : Nat) {x : Str} (e : fa[i]? = some (.cls x) := by rfl) : Cls K (He.ga K x) := He.cls_ok (y.c.fact i e)
theorem Hy.noat (y : Hy fa fn K mg) (i : Nat) {x f : Str} (e : fa[i]? = some (.noat x f) := by rfl) : NoAttr K (He.ga K x) f := He.noat_ok (y.c.fact i e)
theorem Hy.meth (y : Hy fa fn K mg) (i : Nat) {x m : Str} (e : fa[i]? = some (.meth x m) := by rfl) : Meth K (He.ga K x) m (He.ma K (He.ga K x) m) := He.meth_ok (y.c.fact i e)
theorem Hy.mkr (y : Hy fa fn K mg) (i : Nat) {x : Str} (e : fa[i]? = some (.mkr x) := by rfl) : Mk K (He.ga K x) (He.ma K (He.ga K x) "__init__") := He.mkr_ok (y.c.fact i e)
theorem Hy.clsA {X : Cx} (y : Hy fa fn X.K X.mg) (i j k : Nat) {x f : Str} (e1 : fa[i]? = some (.glo x) := by rfl) (e2 : fa[j]? = some (.cls x) := by rfl) (e3 : fa[k]? = some (.noat x f) := by rfl) : ClsA X x f := ⟨_, y.glo i e1, y.cls j e2, y.noat k e3⟩
end
/-- a law's promise from the mirror -/
theorem law_sp {np : Nat} {m : List D → M D} {H : Hp} {a : Addr} {ns : List Int} (hl : ns.length ≤ 63) (hS : SqL K H a (ns.map V.int)) (hnp : np = 1) (h : ∃ S, m [.scr ns] [] = .ok (.bl true) S) :
    spD K mg np m [.ref a] H (fun v _ => v = .bl true) fun _ _ _ => False := by
  obtain ⟨S, e⟩ := h
  have z : ns.length ≤ sizeLine := by rw [sizeLine_eq]; omega
  refine ⟨hnp.symm, H, [], [], [.scr ns], ⟨Same.refl _, rfl, List.nodup_nil, fun n o e => by simp at e⟩, .cons (.scr hS z) .nil, ?_⟩
  rw [e]
  intro G' ψ' H' x R v dv
  cases dv
  rfl
theorem cx_no {P : Program} {w : World} (H : Hp) (s : Shared) (e : Value) (s' : Shared) (h : L2.CX P w [] H s (fun _ _ _ => False) e s') : False := by
  obtain ⟨_, _, _, _, _, _, _, _, _, _, _, _, h⟩ := h
  exact h
end
end Nt

set_option maxHeartbeats 2000000
namespace Nt
open PySem PySem.Spec L2
open PyProof.Rows hiding St
/-- a law over a head by facts, what it may let out told for each world -/
theorem walk_ofW {l : PySem.W.OpenLaw} {n k : Nat} {q : Program} {loose : List Str} {XP : (Str → Option Value) → Heap → Prop} {YP : World → Heap → Prop} {d : DefRec} {CX : World → CXT} {x : Str}
    (hn : l.most = some n) (hn2 : n ≤ sizeLine) (hdf : d.params.defaults = []) (hr : Room k callerA)
    (F : ∀ (w : World) (mg : Str → Option Value) (fa : Addr) (h : Heap), YP w h → h.Ns mainGlobals mg → mg d.name = some (.ref fa) →
      ∃ (K : PySem.W.Frag) (fd : FuncData) (sp : Sp), K.In h ∧ (∀ (s : Shared) (u : Value), BindsTo s fd ⟨[u], []⟩ [(x, u)]) ∧
        (∀ (H : Hp) (a : Addr) (ns : List Int), ns.length ≤ n → Only H → SqL K H a (ns.map V.int) → sp [.ref a] H (fun v _ => v = .bl true) fun _ _ _ => False) ∧
        ∀ base : Heap, K.In base → base.Ns mainGlobals mg → FnOk l.prog w K mg base (CX w) k fa fd [x] sp)
    (hCX : ∀ (w : World) (H : Hp) (s : Shared) (e : Value) (s' : Shared), CX w [] H s (fun _ _ _ => False) e s' → False) :
    PySem.W.WalkO q loose XP YP l.row.toRowW d [] (fun f vs => PySem.call f vs) := by
  refine Att.attach_call hn hdf fun w s₀ s₁ mg mb fa o pm cd doc a vs ns G Y ho hd hcd hmg hobj hints hlen hg => ?_
  obtain ⟨K, fd, sp, KX, hb, hsp, hF⟩ := F w mg fa _ Y G.T.g hmg
  exact law_call KX G.T.g G.T.b G.T.builtins G.T.nolimit hg hobj hints (Nat.le_trans hlen hn2) hr hF hb (fun H hO hS => hsp H a ns hlen hO hS) fun H e s' => hCX w H s₁ e s'
end Nt

/-! an own exception class over ValueError whose __init__ says super().__init__(..) first -/
namespace Nx
open PySem PySem.Spec PySem.W L2
open PyProof.Rows hiding St

section
variable {prog : Program} {w : World} {A : Around} {E : Value → Shared → Prop} {h : Heap} {g : Array GenState} {d : Drawn} {t : Nat} {os : OsState}
variable {nm q : Str} {C N : Addr} {bs bm : List Value} {hdct : Bool} {sn : List Str} {sub : List Value} {ab : Bool} {col : Option Bool} {dd : Option Addr} {k0 k1 k2 k3 k5 : Option Value}
theorem call_mwV {u e t0 : Addr} {rest : List Value} {Q : Value → Shared → Prop}
    (hC : h.get? C = some (excClassObj nm q C N bs bm hdct sn sub ab col dd k0 k1 k2 k3 k5 "ValueError.__new__")) (he : h.get? e = some (HandSPX.excO C t0)) (hu : h.get? u = some (kxs_mw "ValueError.__init__" e)) (hrest : rest.length ≤ sizeLine)
    (hq : ∀ h' t1, (∀ b o, b ≠ e → h.get? b = some o → h'.get? b = some o) → h'.get? e = some (HandSPX.excO C t1) → Q .none ⟨h', g, d, t, os⟩) :
    wpAny (model prog w) A (call (.ref u) rest) Q E ⟨h, g, d, t, os⟩ := by
  refine wpAny_call (codeAny_of_tree ?_)
  show wpAny _ A.in1 (callAny (.ref u) ⟨rest, []⟩) _ _ _
  simp only [callAny]
  refine wpAny_bind (wpAny_load hu ?_)
  simp only [kxs_mw, show (Value.type "method-wrapper" == Value.type "method" || Value.type "method-wrapper" == Value.type "builtin_function_or_method" || Value.type "method-wrapper" == Value.type "method-wrapper") = true by decide, if_true]
  refine W.KFB.if_so (by decide) ?_
  refine wpAny_bind (PySem.ESX.check_bound F.excBase_ValueError hC he rfl ?_)
  refine wpAny_bind (wpAny_pure (wpAny_pure ?_))
  refine ⟨Code.quiet_builtin _ (by decide +kernel), codeAny_builtin F.excBase_ValueError.initEntry ?_⟩
  rw [Around.under_plainId F.excBase_ValueError.init.plain _]
  wp_walk
  refine hq _ h.objs.size (fun b o hb ho => ?_) ?_
  · rw [Heap.get?_update_other _ _ (Ne.symm hb)]
    exact Heap.get?_push_of_some _ ho
  · rw [Heap.get?_update_self _ (Heap.get?_push_of_some _ he) rfl]
    rfl
end

theorem sup_call {X : Cx} {σ : L2.St} {H : Hp} {s : Shared} {body : List Stmt} {f cda cc C e : Addr} {fd : FuncData} {ar : Arg} {oc ccl cl : Value} {od cdd cld : Option Addr} {osl ccs csl : Array (Option Value)} {vs : Array Value} {file : Str} {tf : Tok} {cdD : ClassData} {a : Expr} {as : List Expr} {t : TA} {p0 p1 ap cp : Pos}
    (I : Inv X [] σ H s) (hfu : X.env.func = some f) (hco : X.env.code = .ref cda) (hks : X.env.kindOf "super" = some .globalImplicit) (hkc : X.env.kindOf "__class__" = some .free) (hcl : X.env.cells.lookup ("__class__" : Str) = some cc)
    (lk : X.K.lookup f = some ⟨oc, od, .func fd, osl⟩) (hp : (fd.params.posonlyargs ++ fd.params.args).head? = some ar) (hself : X.N[0]? = some ar.arg) (hloc : X.env.kindOf ar.arg = some .local) (h0 : σ[0]? = some (some (.ref e)))
    (hcode : X.K.lookup cda = some ⟨ccl, cdd, .fields vs, ccs⟩) (hvs : vs[2]? = some (.str file tf)) (hfile : ((X.prog.main.file : Str) == file) = true) (htop : (X.prog.main.scope.names.lookup ("super" : Str)).isSome = false) (hmS : X.mg "super" = none)
    (hcell : X.K.lookup cc = some ⟨cl, cld, .cell (some (.ref C)), csl⟩) (T : OexC X.K C) (hD : clsIn X.K C = some cdD) (hsub : mroIn X.K C (.ref C) = some true) (hin : ks_superIn X.K C C "__init__" = some (some (.builtin "ValueError.__init__"))) (hB : subIn X.K (.ref C) (.type "ValueError") = some true) (hno : nsIn X.K cStatics "thirdparty.any" = some none)
    (he : H e = some (exo e C none)) (ha : PA X (a :: as) t) (ht : t σ H fun vs H1 => H1 = H ∧ vs.length ≤ 1000)
    (hs : starEach (a :: as) X.env = (false, eval a X.env) :: starEach as X.env := by rfl) (hpl : (backTo cp (starEach as X.env)).any (·.1) = false := by rfl)
    (heq : ∃ pl : Sem Bool, eval (.Call (.Attribute (.Call (.Name "super" p0) [] [] p1) "__init__" ap) (a :: as) [] cp) X.env = (do
      let ov ← attributeBase (.Call (.Name "super" p0) [] [] p1) "__init__" X.env (eval (.Call (.Name "super" p0) [] [] p1) X.env)
      standAt ap.atName
      let (f, first) ← holding [ov] (getMethod ov "__init__" pl)
      callWith cp f first (backTo cp (starEach (a :: as) X.env)) []) := by exact ⟨_, rfl⟩) :
    PySem.wpAt (model X.prog X.w) X.A (.func body X.env) (eval (.Call (.Attribute (.Call (.Name "super" p0) [] [] p1) "__init__" ap) (a :: as) [] cp) X.env) (fun _ s' => Inv X [] σ H s') X.xe s := by
  obtain ⟨pl, heq⟩ := heq
  have XK := I.kIn
  obtain ⟨oD, hD1, hD2⟩ : ∃ oD, s.heap.get? C = some oD ∧ oD.data = .cls cdD := by
    have hD' := hD
    unfold clsIn at hD'
    split at hD'
    · rename_i c d cd' sl ho
      cases hD'
      exact ⟨_, XK _ _ ho, rfl⟩
    · cases hD'
  obtain ⟨t1, ho⟩ := exo_at I.hok he
  refine ks_wpAt_MethodCall (ks_wpAt_super_base hks hkc (by decide) hfu (XK _ _ lk) rfl hp hco (XK _ _ hcode) rfl hvs hfile htop ?_) heq
  obtain ⟨mb, b1, b2⟩ := I.mod.blt
  refine ks_loadName_global I.ok.kind hks (Calls.loadGlobal_builtin (by rw [I.ok.glob]; exact I.mod.glob.keeps I.bk) hmS (by rw [I.ok.blt]; exact b1.keeps I.bk) ((b2 _ (by decide +kernel)).trans (by decide +kernel)) ⟨rfl, ?_⟩)
  refine wpAny_loadName_free I.ok.kind hkc hcl ⟨_, XK _ _ hcell, rfl⟩ ?_
  obtain ⟨m, hn, hl⟩ := id I.loc
  obtain ⟨u0, ru0, look⟩ := hl 0 ar.arg (.ref e) hself h0 (.inl hloc)
  cases ru0
  have hm0 : m ar.arg = some (.ref e) := by
    rcases look with ⟨_, hm⟩ | ⟨hk, _⟩
    · exact hm
    · rw [hloc] at hk
      rcases hk with hk | hk <;> cases hk
  refine wpAny_loadName_local I.ok.kind hloc hn hm0 ?_
  refine ks_wpAny_isType_cls hD1 hD2 ⟨rfl, ?_⟩
  obtain ⟨hp0, g0, d0, tk0, os0⟩ := s
  refine ks_wpAny_call_super hD1 hD2 ho rfl (fun c z => by cases z) (looks_mroIn XK hsub) (fun h1 e1 k1 => ?_)
  -- the super object stands at the end of the heap
  have I1 : Inv X [] σ H ⟨h1, g0, d0, tk0, os0⟩ := I.kept (t' := tk0) k1
  have XK1 := I1.kIn
  have hI : Looks (model X.prog X.w) h1 (isInstance (.ref e) (.type "ValueError")) true :=
    (InstAt.type (⟨k1 _ _ ho, rfl, rfl, trivial⟩ : InstAt h1 e _ C none)).andThen (looks_subIn XK1 hB)
  have hin' := hin
  unfold ks_superIn at hin'
  rw [hD] at hin'
  have hxC : e ≠ C := fun z => by
    subst z
    rw [ho] at hD1
    cases hD1
    cases hD2
  refine kxs_getMethod kxs_ValueError e1 (looks_opaque XK1 hno) (l₀ := cdD.mro) (fun A Q E s k q => wpAny_bind ((looks_clsIn XK1 hD) A _ E s k (wpAny_pure q))) rfl XK1 hin' hI hxC (by decide) ?_
  have k2 : ∀ b o, h1.get? b = some o → (h1.push (kxs_mw "ValueError.__init__" e)).get? b = some o := fun b o z => Heap.get?_push_of_some _ z
  have I2 : Inv X [] σ H ⟨h1.push (kxs_mw "ValueError.__init__" e), g0, d0, tk0 + 1, os0⟩ := I1.kept (t' := tk0 + 1) k2
  have hu : (h1.push (kxs_mw "ValueError.__init__" e)).get? h1.objs.size = some (kxs_mw "ValueError.__init__" e) := Heap.get?_push_size _ rfl
  have hfr : H h1.objs.size = none := I1.hok.fresh (Nat.le_refl _)
  have I3 : Inv X [(h1.objs.size, kxs_mw "ValueError.__init__" e)] σ H ⟨h1.push (kxs_mw "ValueError.__init__" e), g0, d0, tk0 + 1, os0⟩ := I2.pins_of fun p hp => by
    have ep : p = (h1.objs.size, kxs_mw "ValueError.__init__" e) := by simpa using hp
    subst ep
    exact ⟨hu, hfr, Nat.ne_of_gt I1.lt, I1.nofs (Nat.le_refl _), fun v z => by cases z⟩
  show wpAny _ _ (callWith cp (.ref h1.objs.size) [] (backTo cp (starEach (a :: as) X.env)) []) _ _ _
  rw [hs]
  refine kxs_callWith (i := "ValueError.__init__") (x := e) (by show (false || (backTo cp (starEach as X.env)).any (·.1)) = false; rw [hpl]; rfl) (PySem.Calls.evalArgs_plain ?_)
  show wpAny _ _ (spliced (backTo cp ((false, eval a X.env) :: starEach as X.env))) _ _ _
  rw [← hs]
  refine wpAny_mono (ha.run cp _ _ σ H _ I3 ht) (fun us s4 ⟨ws, H4, I4, rw4, e4, hlen⟩ => ?_) fun _ _ z => z
  subst e4
  have hu4 : s4.heap.get? h1.objs.size = some (kxs_mw "ValueError.__init__" e) := (I4.pin _ (List.mem_append_right _ (List.mem_singleton.mpr rfl))).1
  refine ⟨hu4, ?_⟩
  obtain ⟨nm, q, N, bs, bm, sn, sub, ab, col, dd, k0, k1', k2', k3, k5, hC, hbm⟩ := T.cls
  obtain ⟨t4, ho4⟩ := exo_at I4.hok he
  have hus : us.length ≤ sizeLine := by
    rw [← Paired.length rw4, sizeLine_eq]
    omega
  have I5 : Inv X [] σ H4 s4 := I4.pins_of fun p hp => absurd hp (by simp)
  obtain ⟨hp4, g4, d4, tk4, os4⟩ := s4
  refine call_mwV (I5.kIn _ _ hC) ho4 hu4 hus fun h5 t5 k5' hx => ?_
  have J := I5.write (t' := tk4) (x := e) (e := e) (o := exo e C none) (by rw [he]; exact True.intro) (.inl rfl) k5' ⟨_, hx⟩ (exo_ok hx)
  have eu : upd H4 e (exo e C none) = H4 := by
    funext b
    by_cases hb : b = e
    · rw [hb, upd_same, he]
    · rw [upd_ne hb]
  rw [eu] at J
  exact J
end Nx

/-! the __init__ of an own exception class, entered: its closure holds the class -/
namespace Nx
open PySem PySem.Spec PySem.W L2
open PyProof.Rows hiding St
open NdefX (NF NScope ncx envF startF CellsAt inv_startN)

section
variable {CX : CXT} {P : Program} {w : World} {K : PySem.W.Frag} {mg : Str → Option Value} {base : Heap} {N ps : List Str} {k : Nat} {f cc cda C : Addr} {name qual : Str} {params : Arguments} {body : List Stmt} {scope : Scope} {doc pm ct oc cl : Value} {od cld : Option Addr} {osl csl : Array (Option Value)} {sp : Sp}
abbrev nfC (name qual : Str) (params : Arguments) (body : List Stmt) (scope : Scope) (cc cda : Addr) : NF := ⟨name, qual, params, body, scope, [("__class__", cc)], cda⟩
theorem look_cl {cc c : Addr} {y : Str} (e : ([("__class__", cc)] : List (Str × Addr)).lookup y = some c) : y = "__class__" ∧ c = cc := by
  have := PySem.mem_of_lookup e
  simp at this
  exact this
theorem fn_ofC (lk : K.lookup f = some ⟨oc, od, .func (PySem.W.fnX name qual params body scope [("__class__", cc)] .none .none doc pm none (.ref cda) ct), osl⟩) (hcd : PySem.W.codeIn K (.ref cda) qual = true) (S : NScope N ps ["__class__"] scope)
    (hcell : K.lookup cc = some ⟨cl, cld, .cell (some (.ref C)), csl⟩) (len : ∀ vs H Q E, sp vs H Q E → vs.length = ps.length)
    (hbody : ∀ (A : Around) (outer : List Env) (s s1 : Shared) (H : Hp) (vs : List V) (Q : VK) (E : XK), Room k (A.deeper (envF (nfC name qual params body scope cc cda) f s.heap.objs.size)) → sp vs H Q E →
      Inv (ncx CX P w K mg base N (nfC name qual params body scope cc cda) f A outer s H E) [] (startF N vs [some (.ref C)]) H s1 →
      PySem.wpAt (model P w) (A.deeper (envF (nfC name qual params body scope cc cda) f s.heap.objs.size)) (.func body (envF (nfC name qual params body scope cc cda) f s.heap.objs.size)) (execs body (envF (nfC name qual params body scope cc cda) f s.heap.objs.size))
        (SP (ncx CX P w K mg base N (nfC name qual params body scope cc cda) f A outer s H E) [] { nx := fun _ H' => Q .non H', rt := Q }) (ncx CX P w K mg base N (nfC name qual params body scope cc cda) f A outer s H E).xe s1) :
    FnOk P w K mg base CX (k + 1) f (PySem.W.fnX name qual params body scope [("__class__", cc)] .none .none doc pm none (.ref cda) ct) ps sp := by
  refine ⟨len, fun A outer s H args us vs Q E hr e0 hb r hsp => ?_⟩
  have hl := len _ _ _ _ hsp
  have KX : K.In s.heap := e0.mod.kin.keeps fun b o e => (e0.bs b o e).1
  have lim : s.heap.NoLimit := e0.mod.nolimit.keeps fun b o e => (e0.bs b o e).1
  have hcc : base.get? cc = some ⟨cl, cld, .cell (some (.ref C)), csl⟩ := e0.mod.kin _ _ hcell
  have hfree : H cc = none := (e0.bs _ _ hcc).2
  have hcs : s.heap.IsCell cc (some (.ref C)) := ⟨_, KX _ _ hcell, rfl⟩
  refine PySem.ks_codeAny_call_defAt (fd := PySem.W.fnX name qual params body scope [("__class__", cc)] .none .none doc pm none (.ref cda) ct) (body := body) (binds := ps.zip us) hr.depth (KX _ _ lk) rfl lim (PySem.W.codeRec_of KX hcd) rfl hb S.nocell (fun ⟨n, _⟩ hy => S.par n (List.of_mem_zip hy).1) (fun h₁ hns kp => ?_) S.co S.gen S.kind
  have CA : CellsAt (nfC name qual params body scope cc cda).cl ["__class__"] [some (V.ref C)] s.heap H := by
    refine ⟨rfl, fun y c e => ?_, fun x y c e1 e2 => ?_, fun i y hy => ?_⟩
    · obtain ⟨_, rfl⟩ := look_cl e
      exact ⟨hfree, _, hcs⟩
    · rw [(look_cl e1).1, (look_cl e2).1]
    · cases i with
      | zero =>
        have hy : y = "__class__" := by simpa using hy.symm
        subst hy
        refine ⟨cc, by show ([("__class__", cc)] : List (Str × Addr)).lookup ("__class__" : Str) = some cc; simp, fun v hv => ?_⟩
        have : v = .ref C := by simpa using hv.symm
        subst this
        exact ⟨.ref C, rfl, hcs⟩
      | succ i => simp at hy
  have I : Inv (ncx CX P w K mg base N (nfC name qual params body scope cc cda) f A outer s H E) [] (startF N vs [some (.ref C)]) H { s with heap := h₁, toks := s.toks + (ps.zip us).length } := inv_startN S hr.hd e0 hl r CA hns kp
  refine PySem.wpAt_mono (hbody A outer s _ H vs Q E (hr.deeper _) hsp I) (fun fl s' hs => ?_) fun e s' hs => hs
  have fin : ∀ {σ' : L2.St} {H' : Hp} {v : V} {u : Value}, Inv (ncx CX P w K mg base N (nfC name qual params body scope cc cda) f A outer s H E) [] σ' H' s' → RelV v u → Q v H' → CE outer P w H s Q u s' :=
    fun {σ' H' v u} J rv q => ⟨v, H', J.os, J.bare, J.base, J.hok, rv, q⟩
  cases fl with
  | ret u =>
    obtain ⟨v, σ', H', J, rv, q⟩ := hs
    exact fin J rv q
  | next =>
    obtain ⟨σ', H', J, q⟩ := hs
    exact fin (v := V.non) (u := Value.none) J rfl q
  | brk =>
    obtain ⟨_, _, _, q⟩ := hs
    exact False.elim q
  | cont =>
    obtain ⟨_, _, _, q⟩ := hs
    exact False.elim q
/-- what the written part says of an own exception class whose __init__ says super().__init__(..) -/
structure ExK (K : PySem.W.Frag) (C f cc cda : Addr) (file : Str) : Prop where
  o : OexC K C
  cls : ∃ cd, clsIn K C = some cd
  sub : mroIn K C (.ref C) = some true
  sup : ks_superIn K C C "__init__" = some (some (.builtin "ValueError.__init__"))
  ve : subIn K (.ref C) (.type "ValueError") = some true
  no : nsIn K cStatics "thirdparty.any" = some none
  cell : ∃ cl cld csl, K.lookup cc = some ⟨cl, cld, .cell (some (.ref C)), csl⟩
  code : ∃ ccl cdd ccs vs tf, K.lookup cda = some ⟨ccl, cdd, .fields vs, ccs⟩ ∧ vs[2]? = some (.str file tf)
/-- the promise of such an __init__: it lays the fields -/
def spI (C : Addr) (np : Nat) (fl : List V → List (Str × V)) : Sp := fun vs H Q _ => vs.length = np + 1 ∧ ∃ e ws, vs = .ref e :: ws ∧ H e = some (exo e C none) ∧ ∀ dx H', H dx = none → dx ≠ e → H' e = some (exo e C (some dx)) → H' dx = some (exd dx (fl ws)) → (∀ b, b ≠ e → b ≠ dx → H' b = H b) → Q .non H'
def init1 (a : Str) (p0 p1 ap cp ep pa q1 q2 q3 q4 : Pos) : List Stmt :=
  [.Expr (.Call (.Attribute (.Call (.Name "super" p0) [] [] p1) "__init__" ap) [.Name a pa] [] cp) ep, .Assign [.Attribute (.Name "self" q1) a q2] (.Name a q3) q4]
def init2 (a b : Str) (p0 p1 ap cp ep pa pb q1 q2 q3 q4 r1 r2 r3 r4 : Pos) : List Stmt :=
  [.Expr (.Call (.Attribute (.Call (.Name "super" p0) [] [] p1) "__init__" ap) [.Name a pa, .Name b pb] [] cp) ep, .Assign [.Attribute (.Name "self" q1) a q2] (.Name a q3) q4, .Assign [.Attribute (.Name "self" r1) b r2] (.Name b r3) r4]
end
end Nx

/-! own exception classes: their facts by names, beside those of the head -/
namespace Nx
open PySem PySem.Spec PySem.W L2
open PyProof.Rows hiding St
open He (eqO eqO_ok ba)

def excB (K : PySem.W.Frag) (C : Addr) : Bool := match K.lookup C with
  | some ⟨.type t, _, .cls cd, sl⟩ => (match cd.mro, sl.toList with
    | .ref C' :: bm, [_, _, _, _, some (.builtin n), _] => decide (t = "type") && (decide (C' = C) && (decide (n = "ValueError.__new__") && (!cd.hasDel && (cd.hasDict && PySem.HandSPX.refsVE bm))))
    | _, _ => false)
  | _ => false
theorem excB_ok {K : PySem.W.Frag} {C : Addr} (h : excB K C = true) : ∃ nm q N bs bm sn sub ab col dd k0 k1 k2 k3 k5, K.lookup C = some (excClassObj nm q C N bs bm true sn sub ab col dd k0 k1 k2 k3 k5 "ValueError.__new__") ∧ PySem.HandSPX.refsVE bm = true := by
  unfold excB at h
  split at h
  · rename_i t dd cd sl ho
    split at h
    · rename_i C' bm k0 k1 k2 k3 n k5 hm hs
      obtain ⟨h1, h⟩ := ba h
      obtain ⟨h2, h⟩ := ba h
      obtain ⟨h3, h⟩ := ba h
      obtain ⟨h4, h⟩ := ba h
      obtain ⟨h5, h6⟩ := ba h
      obtain ⟨nm, bs, mro, ns, qn, hd, sn, sb, ab, col, del⟩ := cd
      have h1 := of_decide_eq_true h1
      have h2 := of_decide_eq_true h2
      have h3 := of_decide_eq_true h3
      dsimp only at hm h4 h5
      subst h1 h2 h3 hm h5
      have h4 : del = false := by simpa using h4
      subst h4
      have hs' : sl = #[k0, k1, k2, k3, some (.builtin "ValueError.__new__"), k5] := by
        apply Array.ext'
        rw [hs]
      subst hs'
      exact ⟨nm, qn, ns, bs, bm, sn, sb, ab, col, dd, k0, k1, k2, k3, k5, ho, h6⟩
    · cases h
  · cases h
/-- an own exception class by its name: the fields that its __init__ stores, its __init__'s text -/
structure XcD where
  name : Str
  fields : List Str
  params : Arguments
  body : List Stmt
  scope : Scope
abbrev FnC : Type := Option (Str × Str × Arguments × FuncBody × Scope × Addr × Value × Value × Option Addr × Addr)
abbrev iA (K : PySem.W.Frag) (x : Str) : Addr := He.ma K (He.ga K x) "__init__"
def fnC (K : PySem.W.Frag) (x : Str) : FnC := match K.lookup (iA K x) with
  | some ⟨_, _, .func fd, _⟩ => some (fd.name, fd.qualname, fd.params, fd.body, fd.scope, fd.globals, fd.defaults, fd.kwdefaults, fd.annotations, fd.builtins)
  | _ => none
def XcD.val (d : XcD) : FnC := some ("__init__", d.name ++ ".__init__", d.params, .stmts d.body, d.scope, mainGlobals, .none, .none, none, builtinsNs)
def cellB (K : PySem.W.Frag) (C cc : Addr) : Bool := match K.lookup cc with
  | some ⟨_, _, .cell (some (.ref C')), _⟩ => decide (C' = C)
  | _ => false
def codeB (K : PySem.W.Frag) (file : Str) (cda : Addr) : Bool := match K.lookup cda with
  | some ⟨_, _, .fields vs, _⟩ => (match (vs[2]? : Option Value) with
    | some (.str g _) => decide (g = file)
    | _ => false)
  | _ => false
def closB (K : PySem.W.Frag) (C : Addr) (file : Str) (f : Addr) : Bool := match K.lookup f with
  | some ⟨_, _, .func fd, _⟩ => (match fd.closure, fd.code with
    | [(y, cc)], .ref cda => decide (y = "__class__") && (PySem.W.codeIn K (.ref cda) fd.qualname && (cellB K C cc && codeB K file cda))
    | _, _ => false)
  | _ => false
def exkB (K : PySem.W.Frag) (file : Str) (d : XcD) : Bool :=
  excB K (He.ga K d.name) && (closB K (He.ga K d.name) file (iA K d.name) && ([
    eqO (nsIn K mainGlobals d.name) (some (some (.ref (He.ga K d.name)))),
    eqO (findIn K (.ref (He.ga K d.name)) "__setattr__") (some (some (.builtin "object.__setattr__"))),
    eqO (findIn K (.ref (He.ga K d.name)) "__getattribute__") (some (some (.builtin "BaseException.__getattribute__"))),
    eqO (findIn K (.ref (He.ga K d.name)) "__getattr__") (some none),
    eqO (findIn K (.ref (He.ga K d.name)) "__init__") (some (some (.ref (iA K d.name)))),
    eqO (ks_superIn K (He.ga K d.name) (He.ga K d.name) "__init__") (some (some (.builtin "ValueError.__init__"))),
    eqO (nsIn K cStatics "thirdparty.any") (some none),
    decide (subIn K (.ref (He.ga K d.name)) (.type "BaseException") = some true),
    decide (typeIn K (.ref (He.ga K d.name)) = some (.type "type")),
    keepIn K (.ref (He.ga K d.name)),
    (clsIn K (He.ga K d.name)).isSome,
    decide (mroIn K (He.ga K d.name) (.ref (He.ga K d.name)) = some true),
    decide (subIn K (.ref (He.ga K d.name)) (.type "ValueError") = some true),
    decide (typeIn K (.ref (iA K d.name)) = some (.type "function")),
    hasDictIn K (He.ga K d.name),
    decide (exmOne K (.ref (He.ga K d.name)) (.ref (He.ga K d.name)) = some true)] ++ d.fields.map fun a => eqO (findIn K (.ref (He.ga K d.name)) a) (some none)).all id)
/-- what is told of an own exception class -/
structure Xc (K : PySem.W.Frag) (mg : Str → Option Value) (file : Str) (d : XcD) : Prop where
  gC : mg d.name = some (.ref (He.ga K d.name))
  o : OexC K (He.ga K d.name)
  ga : findIn K (.ref (He.ga K d.name)) "__getattribute__" = some (some (.builtin "BaseException.__getattribute__"))
  gg : findIn K (.ref (He.ga K d.name)) "__getattr__" = some none
  iC : findIn K (.ref (He.ga K d.name)) "__init__" = some (some (.ref (iA K d.name)))
  tI : typeIn K (.ref (iA K d.name)) = some (.type "function")
  hd : hasDictIn K (He.ga K d.name) = true
  te : exmOne K (.ref (He.ga K d.name)) (.ref (He.ga K d.name)) = some true
  no : ∀ a ∈ d.fields, findIn K (.ref (He.ga K d.name)) a = some none
  fn : ∃ cc cda, ExK K (He.ga K d.name) (iA K d.name) cc cda file ∧ PySem.W.codeIn K (.ref cda) (d.name ++ ".__init__") = true ∧ ∃ oc od osl doc pm ct,
    K.lookup (iA K d.name) = some ⟨oc, od, .func (fnX "__init__" (d.name ++ ".__init__") d.params d.body d.scope [("__class__", cc)] .none .none doc pm none (.ref cda) ct), osl⟩
theorem xc_ok {K : PySem.W.Frag} {h : Heap} {mg : Str → Option Value} {file : Str} {d : XcD} (X : K.In h) (G : h.Ns mainGlobals mg) (c : exkB K file d = true) (e : fnC K d.name = d.val) : Xc K mg file d := by
  obtain ⟨c1, c⟩ := ba c
  obtain ⟨c2, c3⟩ := ba c
  have al := List.all_eq_true.mp c3
  have z : ∀ (b : Bool), b ∈ _ → b = true := fun b hb => al b hb
  have m1 := z _ (List.mem_append_left _ (.head _))
  have m2 := z _ (List.mem_append_left _ (.tail _ (.head _)))
  have m3 := z _ (List.mem_append_left _ (.tail _ (.tail _ (.head _))))
  have m4 := z _ (List.mem_append_left _ (.tail _ (.tail _ (.tail _ (.head _)))))
  have m5 := z _ (List.mem_append_left _ (.tail _ (.tail _ (.tail _ (.tail _ (.head _))))))
  have m6 := z _ (List.mem_append_left _ (.tail _ (.tail _ (.tail _ (.tail _ (.tail _ (.head _)))))))
  have m7 := z _ (List.mem_append_left _ (.tail _ (.tail _ (.tail _ (.tail _ (.tail _ (.tail _ (.head _))))))))
  have m8 := z _ (List.mem_append_left _ (.tail _ (.tail _ (.tail _ (.tail _ (.tail _ (.tail _ (.tail _ (.head _)))))))))
  have m9 := z _ (List.mem_append_left _ (.tail _ (.tail _ (.tail _ (.tail _ (.tail _ (.tail _ (.tail _ (.tail _ (.head _))))))))))
  have m10 := z _ (List.mem_append_left _ (.tail _ (.tail _ (.tail _ (.tail _ (.tail _ (.tail _ (.tail _ (.tail _ (.tail _ (.head _)))))))))))
  have m11 := z _ (List.mem_append_left _ (.tail _ (.tail _ (.tail _ (.tail _ (.tail _ (.tail _ (.tail _ (.tail _ (.tail _ (.tail _ (.head _))))))))))))
  have m12 := z _ (List.mem_append_left _ (.tail _ (.tail _ (.tail _ (.tail _ (.tail _ (.tail _ (.tail _ (.tail _ (.tail _ (.tail _ (.tail _ (.head _)))))))))))))
  have m13 := z _ (List.mem_append_left _ (.tail _ (.tail _ (.tail _ (.tail _ (.tail _ (.tail _ (.tail _ (.tail _ (.tail _ (.tail _ (.tail _ (.tail _ (.head _))))))))))))))
  have m14 := z _ (List.mem_append_left _ (.tail _ (.tail _ (.tail _ (.tail _ (.tail _ (.tail _ (.tail _ (.tail _ (.tail _ (.tail _ (.tail _ (.tail _ (.tail _ (.head _)))))))))))))))
  have m15 := z _ (List.mem_append_left _ (.tail _ (.tail _ (.tail _ (.tail _ (.tail _ (.tail _ (.tail _ (.tail _ (.tail _ (.tail _ (.tail _ (.tail _ (.tail _ (.tail _ (.head _))))))))))))))))
  have m16 := z _ (List.mem_append_left _ (.tail _ (.tail _ (.tail _ (.tail _ (.tail _ (.tail _ (.tail _ (.tail _ (.tail _ (.tail _ (.tail _ (.tail _ (.tail _ (.tail _ (.tail _ (.head _)))))))))))))))))
  have mf : ∀ a ∈ d.fields, findIn K (.ref (He.ga K d.name)) a = some none := fun a ha => eqO_ok (z _ (List.mem_append_right _ (List.mem_map_of_mem ha)))
  have O : OexC K (He.ga K d.name) := ⟨excB_ok c1, eqO_ok m2, of_decide_eq_true m8, of_decide_eq_true m9, m10⟩
  refine ⟨PySem.W.mg_of X G (eqO_ok m1), O, eqO_ok m3, eqO_ok m4, eqO_ok m5, of_decide_eq_true m14, m15, of_decide_eq_true m16, mf, ?_⟩
  unfold closB at c2
  unfold fnC at e
  cases q : K.lookup (iA K d.name) with
  | none => rw [q] at c2; cases c2
  | some o =>
    obtain ⟨oc, od, dt, osl⟩ := o
    rw [q] at c2 e
    cases dt with
    | func fd =>
      obtain ⟨n1, n2, n3, n4, n5, n6, n7, n8, n9, n10, n11, n12, n13, n14, n15⟩ := fd
      dsimp only at c2 e
      have e2 : (some (n1, n2, n3, n4, n5, n6, n8, n9, n12, n15) : FnC) = (some ("__init__", d.name ++ ".__init__", d.params, .stmts d.body, d.scope, mainGlobals, .none, .none, none, builtinsNs) : FnC) := e
      simp only [Option.some.injEq, Prod.mk.injEq] at e2
      obtain ⟨h1, h2, h3, h4, h5, h6, h7, h8, h9, h10⟩ := e2
      subst h1 h2 h3 h4 h5 h6 h7 h8 h9 h10
      split at c2
      · rename_i y cc cda
        obtain ⟨a1, c2⟩ := ba c2
        obtain ⟨a2, c2⟩ := ba c2
        obtain ⟨a3, a4⟩ := ba c2
        have a1 := of_decide_eq_true a1
        subst a1
        refine ⟨cc, cda, ⟨O, ?_, of_decide_eq_true m12, eqO_ok m6, of_decide_eq_true m13, eqO_ok m7, ?_, ?_⟩, a2, oc, od, osl, _, _, _, rfl⟩
        · exact Option.isSome_iff_exists.mp m11
        · unfold cellB at a3
          split at a3
          · rename_i cl cld C' csl hc
            have := of_decide_eq_true a3
            subst this
            exact ⟨_, _, _, hc⟩
          · cases a3
        · unfold codeB at a4
          split at a4
          · rename_i ccl cdd vs ccs hc
            split at a4
            · rename_i g tf hv
              have := of_decide_eq_true a4
              subst this
              exact ⟨_, _, _, _, _, hc, hv⟩
            · cases a4
          · cases a4
      · cases c2
    | _ => cases c2
/-! ### the Hook -/
abbrev AlZ : Type := He.AlD × Bool × List FnC
def obsZ (fa : List He.Fa) (fn : List He.DefD) (xs : List XcD) (file : Str) (K : PySem.W.Frag) : AlZ := (He.obsD fa fn K, xs.all (exkB K file), xs.map fun d => fnC K d.name)
def valZ (fn : List He.DefD) (xs : List XcD) : AlZ := (He.valD fn, true, xs.map XcD.val)
def SaysZ (fa : List He.Fa) (fn : List He.DefD) (xs : List XcD) (file : Str) (K : PySem.W.Frag) : Prop := obsZ fa fn xs file K = valZ fn xs
def obsZG (n : Nat) (fa : List He.Fa) (fn : List He.DefD) (xs : List XcD) (file : Str) (g : Addr → Option Obj) : AlZ := obsZ fa fn xs file (He.frG g (cStatics :: He.asD g n))
def hookZ (n : Nat) (fa : List He.Fa) (fn : List He.DefD) (xs : List XcD) (file : Str) : PySem.W.Hook where
  α := AlZ
  obs := fun s => obsZG n fa fn xs file s.heap.get?
  val := fun _ => valZ fn xs
  says := fun _ h => ∃ K : PySem.W.Frag, K.In h ∧ SaysZ fa fn xs file K
  of := fun _ _ e => ⟨_, He.frG_in, e⟩
  keeps := fun _ _ _ ⟨K, hK, c⟩ k => ⟨K, PySem.W.Frag.In.keeps hK k, c⟩
theorem obsZG_eq {n : Nat} {fa : List He.Fa} {fn : List He.DefD} {xs : List XcD} {file : Str} {g : Addr → Option Obj} {s : Shared} (h : ∀ a, g a = s.heap.get? a) : obsZG n fa fn xs file g = (hookZ n fa fn xs file).obs s := by
  have e : g = s.heap.get? := funext h
  rw [e] <;> rfl
section
variable {fa : List He.Fa} {fn : List He.DefD} {xs : List XcD} {file : Str} {K : PySem.W.Frag}
theorem SaysZ.d (c : SaysZ fa fn xs file K) : He.SaysD fa fn K := congrArg (fun z : AlZ => z.1) c
theorem SaysZ.xc {h : Heap} {mg : Str → Option Value} (c : SaysZ fa fn xs file K) (X : K.In h) (G : h.Ns mainGlobals mg) (i : Nat) {d : XcD} (hd : xs[i]? = some d := by rfl) : Xc K mg file d := by
  have c1 : xs.all (exkB K file) = true := congrArg (fun z : AlZ => z.2.1) c
  have e : (xs.map fun d => fnC K d.name) = xs.map XcD.val := congrArg (fun z : AlZ => z.2.2) c
  have e2 : (xs.map fun d => fnC K d.name)[i]? = (xs.map XcD.val)[i]? := by rw [e]
  rw [List.getElem?_map, List.getElem?_map, hd] at e2
  exact xc_ok X G (List.all_eq_true.mp c1 d (List.mem_of_getElem? hd)) (Option.some.inj e2)
end
end Nx

/-! raise, try over the data layer -/
namespace Nt
open PySem PySem.Spec L2 Nx
open PyProof.Rows hiding St
open He (ga)

section
variable {K : PySem.W.Frag} {G : Hp} {ψ : List Addr}
theorem FVs.app : ∀ {ds es : List (Str × D)} {vs us : List (Str × V)}, FVs K G ψ ds vs → FVs K G ψ es us → FVs K G ψ (ds ++ es) (vs ++ us)
  | _, _, _, _, .nil, h => h
  | _, _, _, _, .cons r t, h => .cons r (t.app h)
theorem FVs.rev : ∀ {ds : List (Str × D)} {vs : List (Str × V)}, FVs K G ψ ds vs → FVs K G ψ ds.reverse vs.reverse
  | _, _, .nil => .nil
  | _, _, .cons r t => by
    rw [List.reverse_cons, List.reverse_cons]
    exact t.rev.app (.cons r .nil)
theorem FVs.zip : ∀ {fs : List Str} {ds : List D} {vs : List V}, DVs K G ψ ds vs → FVs K G ψ (fs.zip ds) (fs.zip vs)
  | [], _, _, _ => .nil
  | _ :: _, _, _, .nil => by simp; exact .nil
  | f :: fs, _, _, .cons r t => .cons r (FVs.zip (fs := fs) t)
end
/-- the fields that an __init__ lays -/
def flX {α : Type} (fs : List Str) (ws : List α) : List (Str × α) := (fs.zip ws).reverse
/-- raise x(e, ..) -/
def sRs (x : Str) (fs : List Str) (mr : Nv → M (List D)) : SM := sB mr fun ds ρ S => if ds.length = fs.length then .ex x (flX fs ds) ρ S else .bad
section
variable {X : Cx} {W : WX} {e : Expr} {es : List Expr} {mr : Nv → M (List D)} {file : Str} {d : XcD} {p pos pos2 : Pos} {fd : FuncData} {k : Nat}
/-- what a raise of such an exception leans on -/
structure DX (P : Program) (w : World) (K : PySem.W.Frag) (mg : Str → Option Value) (base : Heap) (file : Str) (d : XcD) : Prop where
  xc : Xc K mg file d
  ok : ∃ fd, FnOk P w K mg base CX0 2 (iA K d.name) fd ("self" :: d.fields) (spI (ga K d.name) d.fields.length (flX d.fields)) ∧ Binds K fd ("self" :: d.fields) []
theorem ds_raise (T : DX X.prog X.w X.K X.mg X.base file d) (hc : X.calm = true) (tk : Takes X W) (hr : Room k X.A) (ha : DA X W (e :: es) mr) (hs : d.fields.length ≤ 100) (hg : Gl X d.name := by rfl) (hk : 3 ≤ k := by decide) (hdb : (d.name == ("__debug__" : Str)) = false := by decide)
    (he : starEach (e :: es) X.env = (false, eval e X.env) :: starEach es X.env := by rfl) (hpl : (backTo pos (starEach es X.env)).any (·.1) = false := by rfl) : DS X W (.Raise (some (.Call (.Name d.name p) (e :: es) [] pos)) none pos2) (sRs d.name d.fields mr) := by
  obtain ⟨fd, F1, hb⟩ := T.ok
  refine ⟨PSimp (ps_raise hc tk (pmk_oex (dvs := []) (ds := []) T.xc.o T.xc.iC T.xc.tI F1 (hr.mono hk) hb .nil pass0 hg T.xc.gC ha.pa hdb he hpl)) ?_⟩
  rintro D σ H ⟨G, ψ, S, ρ, R, E, F⟩
  refine ⟨G, ψ, S, ρ, R, E, F.sB E fun ds S1 G1 ψ1 H1 X1 R1 F1 vs dvs => ?_⟩
  by_cases hl : ds.length = d.fields.length
  · rw [if_pos hl] at F1
    have hlv : vs.length = d.fields.length := by rw [← dvs.length]; exact hl
    refine ⟨by omega, fun a ha => ⟨by simp [hlv], a, vs, by simp, upd_same, fun dx H' h1 h2 h3 h4 h5 => ⟨rfl, dx, _, h3, h4, ?_, ?_⟩⟩⟩
    · rw [upd_ne h2] at h1; exact h1
    · have hdx : H1 dx = none := by rw [upd_ne h2] at h1; exact h1
      have eH : upd (del H' a) dx (.xd (flX d.fields vs)) = upd H1 dx (.xd (flX d.fields vs)) := by
        funext b
        by_cases hb : b = dx
        · rw [hb, upd_same, upd_same]
        · rw [upd_ne hb, upd_ne hb]
          by_cases hba : b = a
          · rw [hba, del_same, ha]
          · rw [del_ne hba, h5 b hba hb, upd_ne hba]
      rw [eH]
      have XL := Ext.lay (o := .xd (flX d.fields vs)) R1 hdx
      have R2 : Rep X.K X.mg (upd G1 dx (.xd (flX d.fields vs))) ψ1 S1 (upd H1 dx (.xd (flX d.fields vs))) := R1.lay hdx
      refine F1 _ _ _ σ (.ref (ga X.K d.name)) (some dx) XL R2 ((E.up X1).up XL) ⟨_, T.xc.gC, rfl, .inr ⟨dx, _, rfl, upd_same, ?_⟩⟩
      exact (FVs.zip (XL.dvs dvs)).rev
  · rw [if_neg hl] at F1
    exact F1.elim
end
/-! ### try: body except x as n: return (.., n.f, ..) -/
inductive Sit where
  | cst (x : Str) | fld (f : Str)
def sitD (fs : List (Str × D)) : Sit → Option D
  | .cst x => some (.str x)
  | .fld f => fs.lookup f
def sitsD (fs : List (Str × D)) : List Sit → Option (List D)
  | [] => some []
  | s :: ss => (sitD fs s).bind fun d => (sitsD fs ss).map fun ds => d :: ds
def sTryR (mb : SM) (c : Str) (i : Nat) (its : List Sit) : SM := fun ρ S => match mb ρ S with
  | .ex c' fs ρ' S' => if c' = c ∧ i < ρ'.length then (match sitsD fs its with
    | some ds => .ok (.rt (.tup ds)) S'
    | none => .bad) else .bad
  | r => r
/-- n.f, n the exception that the suite holds -/
def tByF (C : Addr) (a : Addr) (cls : Value) (d : Option Addr) (f : Str) (te : TE) : TE := fun σ H Q => te σ H fun x H1 => x = .ref a ∧ cls = .ref C ∧ ∃ (dd : Addr) (fs : List (Str × V)) (v : V), d = some dd ∧ H1 dd = some (.xd fs) ∧ fs.lookup f = some v ∧ Q v H1
section
variable {X : Cx} {file : Str} {xd : XcD}
theorem pe_byF {a : Addr} {oe : Obj} {cls : Value} {d : Option Addr} {pn : List (Addr × Obj)} {e : Expr} {te : TE} {pos : Pos} {f : Str} (T : Xc X.K X.mg file xd) (hf : f ∈ xd.fields) (hz : Zc cls d oe) (hv : ∃ vs, oe.data = .fields vs) (he : PE (X.suite a ((a, oe) :: pn)) e te)
    (hb : attributeBase e f X.env (eval e X.env) = eval e X.env := by rfl) :
    PE (X.suite a ((a, oe) :: pn)) (.Attribute e f pos) (tByF (ga X.K xd.name) a cls d f te) := by
  refine ⟨fun pins s σ H Q I h => ?_⟩
  refine attr_of hb (thn (he.run pins s σ H _ I h) fun u s1 hh => ?_)
  obtain ⟨x, H1, I1, rx, ex, ec, dd, fs, v, ed, ea, el, q⟩ := hh
  subst ex
  obtain rfl : u = Value.ref a := rx
  subst ec
  subst ed
  obtain ⟨ha, _⟩ := I1.pin (a, oe) (List.mem_append_left _ List.mem_cons_self)
  obtain ⟨vs, hd⟩ := hv
  have hx : ObjOk X.prog X.w H1 s1.heap dd (.xd fs) := I1.hok dd _ ea
  obtain ⟨mA, hns, hr⟩ := hx
  obtain ⟨od, ho, hl⟩ := lookIn_ns hns
  obtain ⟨u, hu, ru⟩ := RelO.some_of (v := v) (o := mA f) (by rw [← el]; exact hr f)
  have J : PySem.W.InstAt s1.heap a oe (ga X.K xd.name) (some od) := ⟨ha, hz.1, by unfold PySem.W.notCls; rw [hd] <;> rfl, by rw [hz.2]; exact ho⟩
  exact HandSPX.exc_get I1.kIn J T.ga T.gg T.o.exC (PySem.W.findObj_own T.hd (T.no f hf) rfl (by rw [hl, hu])) (handed_of ru) ⟨v, H1, I1.tok _, ru, q⟩
/-- the suite's items -/
inductive Sits (n : Str) : List Expr → List Sit → Prop
  | nil : Sits n [] []
  | cst {x : Str} {p : Pos} {es : List Expr} {ss : List Sit} {k} : Sits n es ss → Sits n (.Constant (.str x) k p :: es) (.cst x :: ss)
  | fld {f : Str} {p p2 : Pos} {es : List Expr} {ss : List Sit} : Sits n es ss → Sits n (.Attribute (.Name n p) f p2 :: es) (.fld f :: ss)
def tSits (C : Addr) (a : Addr) (cls : Value) (d : Option Addr) (i : Nat) : List Sit → TA
  | [] => tNil
  | .cst x :: ss => tCons (tC (.str x)) (tSits C a cls d i ss)
  | .fld f :: ss => tCons (tByF C a cls d f (tVar i)) (tSits C a cls d i ss)
theorem pa_sits {a : Addr} {oe : Obj} {cls : Value} {d : Option Addr} {pn : List (Addr × Obj)} {n : Str} {i : Nat} (T : Xc X.K X.mg file xd) (hz : Zc cls d oe) (hv : ∃ vs, oe.data = .fields vs) (hi : X.N[i]? = some n) (hn : Vis X.env.scope n) (hdb : (n == ("__debug__" : Str)) = false) (hcd : (n == ("__classdict__" : Str)) = false)
    (hat : ∀ f p, attributeBase (.Name n p) f X.env (eval (.Name n p) X.env) = eval (.Name n p) X.env) : ∀ {es : List Expr} {ss : List Sit}, Sits n es ss → (∀ f, Sit.fld f ∈ ss → f ∈ xd.fields) → PA (X.suite a ((a, oe) :: pn)) es (tSits (ga X.K xd.name) a cls d i ss)
  | _, _, .nil, _ => pa_nil
  | _, _, .cst r, h => pa_cons pe_str (pa_sits T hz hv hi hn hdb hcd hat r fun f hf => h f (List.mem_cons_of_mem _ hf))
  | _, _, .fld r, h => pa_cons (pe_byF T (h _ (List.mem_cons_self ..)) hz hv (pe_var hi hn hdb hcd) (hat _ _)) (pa_sits T hz hv hi hn hdb hcd hat r fun f hf => h f (List.mem_cons_of_mem _ hf))
theorem sits_read {K : PySem.W.Frag} {G : Hp} {ψ : List Addr} {C a : Addr} {dx : Option Addr} {i : Nat} {σ : St} {H : Hp} {fs : List (Str × D)} (hs : σ[i]? = some (some (.ref a)))
    (hX : ∀ f d0, fs.lookup f = some d0 → ∃ dd vfs v, dx = some dd ∧ H dd = some (.xd vfs) ∧ vfs.lookup f = some v ∧ DV K G ψ d0 v) : ∀ (ss : List Sit) (ds : List D) (Q : List V → Hp → Prop), sitsD fs ss = some ds → (∀ vs, DVs K G ψ ds vs → Q vs H) → tSits C a (.ref C) dx i ss σ H Q
  | [], ds, Q, e, k => by
    cases e
    exact k [] .nil
  | s :: ss, ds, Q, e, k => by
    unfold sitsD at e
    cases es : sitD fs s with
    | none => rw [es] at e; cases e
    | some d0 =>
      rw [es, Option.bind_some] at e
      cases er : sitsD fs ss with
      | none => rw [er] at e; cases e
      | some ds' =>
        rw [er, Option.map_some] at e
        cases e
        cases s with
        | cst x =>
          cases es
          exact sits_read hs hX ss ds' _ er fun vs dvs => k _ (.cons (.str x) dvs)
        | fld f =>
          obtain ⟨dd, vfs, v, e1, e2, e3, e4⟩ := hX f d0 es
          exact ⟨_, hs, rfl, rfl, dd, vfs, v, e1, e2, e3, sits_read hs hX ss ds' _ er fun vs dvs => k _ (.cons e4 dvs)⟩
theorem sitsD_len {fs : List (Str × D)} : ∀ {ss : List Sit} {ds : List D}, sitsD fs ss = some ds → ds.length = ss.length
  | [], ds, e => by cases e; rfl
  | s :: ss, ds, e => by
    unfold sitsD at e
    cases es : sitD fs s with
    | none => rw [es] at e; cases e
    | some d0 =>
      rw [es, Option.bind_some] at e
      cases er : sitsD fs ss with
      | none => rw [er] at e; cases e
      | some ds' =>
        rw [er, Option.map_some] at e
        cases e
        rw [List.length_cons, List.length_cons, sitsD_len er]
theorem ds_tryR {W : WX} {n : Str} {i : Nat} {body : List Stmt} {mb : SM} {elts : List Expr} {its : List Sit} {np rp pos pos' pt : Pos} {kt} (T : Xc X.K X.mg file xd) (tk : Takes X W) (hs : X.stack = X.env :: X.outer) (hf : X.env.frame = some X.env.locals) (hN : X.N.Nodup)
    (hb : ∀ (W' : WX) (pn : List (Addr × Obj)) (xe : Value → Shared → Prop), Takes (X.tr pn xe) W' → PassesOwn (model X.prog X.w) X.A X.env xe → DSs (X.tr pn xe) W' body mb) (hss : Sits n elts its) (hfl : ∀ f, Sit.fld f ∈ its → f ∈ xd.fields) (hil : its.length ≤ 1000)
    (hi : X.N[i]? = some n) (hln : X.env.kindOf n = some .local) (hn : Vis X.env.scope n) (hg : Gl X xd.name) (hdx : (xd.name == ("__debug__" : Str)) = false) (hdb : (n == ("__debug__" : Str)) = false) (hcd : (n == ("__classdict__" : Str)) = false)
    (hat : ∀ f p, attributeBase (.Name n p) f X.env (eval (.Name n p) X.env) = eval (.Name n p) X.env) :
    DS X W (.Try body [.ExceptHandler (some (.Name xd.name np)) (some n) [.Return (some (.Tuple elts kt pt)) rp] pos'] [] [] pos) (sTryR mb xd.name i its) := by
  refine ⟨PSimp (ps_try_as (i := i) (tb := fun W' => tSt X.K X.mg W' mb) (ts := fun a cls d => tRet (tTup (tSits (ga X.K xd.name) a cls d i its))) hs hf hN hi hln ⟨hg, hdx, .inl T.gC⟩ tk (fun W' pn xe tk' po => (hb W' pn xe tk' po).pss)
    (fun a oe cls d pn hz hv => pss_one (ps_ret (pe_tup (pa_sits T hz hv hi hn hdb hcd hat hss hfl))))) ?_⟩
  rintro D σ H ⟨G, ψ, S, ρ, R, E, F⟩
  refine ⟨G, ψ, S, ρ, R, E, ?_⟩
  unfold sTryR at F
  cases em : mb ρ S with
  | ok f S' =>
    rw [em] at F
    cases f <;> exact F
  | bad => rw [em] at F; exact F
  | ex c fs ρ' S' =>
    rw [em] at F
    dsimp only at F
    by_cases hc : c = xd.name ∧ i < ρ'.length
    · rw [if_pos hc] at F
      cases hd : sitsD fs its with
      | none => rw [hd] at F; exact F.elim
      | some ds =>
        rw [hd] at F
        intro G' ψ' H' σ' cls dx X' R' E' xv
        obtain ⟨C, hm, rfl, hfx⟩ := xv
        rw [hc.1, T.gC] at hm
        cases hm
        refine ⟨true, T.te, fun _ a ha => ?_, fun q => by cases q⟩
        have hset : (σ'.set i (some (V.ref a)))[i]? = some (some (.ref a)) := List.getElem?_set_self (by rw [← E'.len]; exact hc.2)
        refine sits_read (K := X.K) (G := G') (ψ := ψ') (fs := fs) hset (fun f d0 hl => ?_) its ds _ hd fun vs dvs => ?_
        · rcases hfx with rfl | ⟨dd, vfs, e1, e2, e3⟩
          · cases hl
          · obtain ⟨v, e4, e5⟩ := e3.lookup hl
            exact ⟨dd, vfs, v, e1, R'.sub _ _ e2, e4, e5⟩
        · have hlen : vs.length ≤ sizeLine := by rw [← dvs.length, sitsD_len hd, sizeLine_eq]; omega
          refine ⟨hlen, fun p hp => ?_⟩
          obtain ⟨x1, x2, x3⟩ := new_tup R' hp dvs hlen
          exact F _ _ _ _ (X'.trans x1) x2 x3
    · rw [if_neg hc] at F
      exact F.elim
end
end Nt

namespace Nt
open PySem PySem.Spec L2
open PyProof.Rows hiding St

/-! ### what a mirror answers -/
def So {α : Type} (o : Option α) (p : α → Prop) : Prop := match o with | some a => p a | none => False
@[irreducible] def Wp {α : Type} (m : M α) (S : Sto) (q : α → Sto → Prop) : Prop := match m S with | .ok a S' => q a S' | _ => False
@[irreducible] def Ws (m : SM) (ρ : Nv) (S : Sto) (q : Fl → Sto → Prop) : Prop := match m ρ S with | .ok f S' => q f S' | _ => False
/-- behind a statement -/
def Th (f : Fl) (S : Sto) (k : Nv → Sto → Prop) (q : Fl → Sto → Prop) : Prop := match f with | .nx ρ => k ρ S | f => q f S
def Ed (f : Fl) (S : Sto) (q : D → Sto → Prop) : Prop := match f with | .nx _ => q .non S | .rt d => q d S | _ => False
def In (d : D) (p : Int → Prop) : Prop := match d with | .int i => p i | _ => False
def Bl (d : D) (p : Bool → Prop) : Prop := match d with | .bl b => p b | _ => False
section
variable {α β : Type} {S : Sto} {ρ : Nv} {q : α → Sto → Prop} {qd : D → Sto → Prop} {qf : Fl → Sto → Prop} {qb : Bool → Sto → Prop} {ql : List D → Sto → Prop}
@[simp] theorem So_some {a : α} {p : α → Prop} : So (some a) p = p a := (rfl)
@[simp] theorem In_int {i : Int} {p : Int → Prop} : In (.int i) p = p i := (rfl)
@[simp] theorem So_none {p : α → Prop} : So none p = False := (rfl)
@[simp] theorem So_bind {o : Option α} {f : α → Option β} {p : β → Prop} : So (o.bind f) p = So o fun a => So (f a) p := by cases o <;> rfl
@[simp] theorem So_map {o : Option α} {f : α → β} {p : β → Prop} : So (o.map f) p = So o fun a => p (f a) := by cases o <;> rfl
@[simp] theorem So_ite {c : Prop} [Decidable c] {o o' : Option α} {p : α → Prop} : So (if c then o else o') p = if c then So o p else So o' p := by split <;> rfl
theorem Wp.of {m : M α} {a : α} {S' : Sto} (e : m S = .ok a S') : Wp m S q = q a S' := by unfold Wp; rw [e]
theorem Wp.iff {m : M α} : Wp m S q ↔ ∃ a S', m S = .ok a S' ∧ q a S' := by
  unfold Wp
  cases m S with
  | ok a S' => exact ⟨fun h => ⟨a, S', rfl, h⟩, fun ⟨_, _, e, h⟩ => by cases e; exact h⟩
  | ex c fs S' => exact ⟨False.elim, fun ⟨_, _, e, h⟩ => by cases e⟩
  | bad => exact ⟨False.elim, fun ⟨_, _, e, h⟩ => by cases e⟩
theorem Wp.mono {m : M α} {q' : α → Sto → Prop} (h : Wp m S q) (k : ∀ a S', q a S' → q' a S') : Wp m S q' := by
  unfold Wp at *
  cases e : m S with
  | ok a S' => rw [e] at h; exact k _ _ h
  | ex c fs S' => rw [e] at h; exact h
  | bad => rw [e] at h; exact h
theorem Ws.mono {m : SM} {q' : Fl → Sto → Prop} (h : Ws m ρ S qf) (k : ∀ a S', qf a S' → q' a S') : Ws m ρ S q' := by
  unfold Ws at *
  cases e : m ρ S with
  | ok a S' => rw [e] at h; exact k _ _ h
  | ex c fs _ S' => rw [e] at h; exact h
  | bad => rw [e] at h; exact h
@[simp] theorem wp_bnd {m : M α} {f : α → M β} {q : β → Sto → Prop} : Wp (bnd m f) S q = Wp m S fun a S' => Wp (f a) S' q := by
  unfold Wp bnd
  cases m S <;> rfl
@[simp] theorem wp_ret {a : α} : Wp (ret a) S q = q a S := by unfold Wp; rfl
theorem wp_ok {a : α} {f : Sto → Sto} : Wp (fun S => Rs.ok a (f S)) S q = q a (f S) := by unfold Wp; rfl
@[simp] theorem wp_bad : Wp (bad : M α) S q = False := by unfold Wp; rfl
@[simp] theorem wp_ask {f : Sto → Option α} : Wp (ask f) S q = So (f S) fun a => q a S := by
  unfold Wp ask So
  cases f S <;> rfl
@[simp] theorem wp_ite {c : Prop} [Decidable c] {m m' : M α} : Wp (if c then m else m') S q = if c then Wp m S q else Wp m' S q := by split <;> rfl
@[simp] theorem wp_eV {i : Nat} : Wp (eV i ρ) S qd = So (ρ[i]?) fun o => So o fun d => qd d S := by
  unfold Wp eV
  cases ρ[i]? with
  | none => rfl
  | some o => cases o <;> rfl
@[simp] theorem wp_eC {d : D} : Wp (eC d ρ) S qd = qd d S := by unfold Wp; rfl
@[simp] theorem wp_eO {f : F2} {ma mb : Nv → M D} : Wp (eO f ma mb ρ) S qd = Wp (ma ρ) S fun x S1 => Wp (mb ρ) S1 fun y S2 => So (f S2 x y) fun d => qd d S2 := by
  unfold eO; simp only [wp_bnd, wp_ask]
@[simp] theorem wp_eB {g : FB} {ma : Nv → M (List D)} : Wp (eB g ma ρ) S qd = Wp (ma ρ) S fun ds S1 => So (g S1 ds) fun d => qd d S1 := by
  unfold eB; simp only [wp_bnd, wp_ask]
@[simp] theorem wp_nB {g : FN} {ma : Nv → M (List D)} : Wp (nB g ma ρ) S ql = Wp (ma ρ) S fun ds S1 => So (g S1 ds) fun d => ql d S1 := by
  unfold nB; simp only [wp_bnd, wp_ask]
@[simp] theorem wp_eAnd {ma mb : Nv → M D} : Wp (eAnd ma mb ρ) S qd = Wp (ma ρ) S fun x S1 => So (truD S1 x) fun k => if k = true then Wp (mb ρ) S1 qd else qd x S1 := by
  unfold eAnd; simp only [wp_bnd, wp_ask, wp_ite, wp_ret]
@[simp] theorem wp_eOr {ma mb : Nv → M D} : Wp (eOr ma mb ρ) S qd = Wp (ma ρ) S fun x S1 => So (truD S1 x) fun k => if k = true then qd x S1 else Wp (mb ρ) S1 qd := by
  unfold eOr; simp only [wp_bnd, wp_ask, wp_ite, wp_ret]
@[simp] theorem wp_eNot {ma : Nv → M D} : Wp (eNot ma ρ) S qd = Wp (ma ρ) S fun x S1 => So (truD S1 x) fun k => qd (.bl (!k)) S1 := by
  unfold eNot; simp only [wp_bnd, wp_ask, wp_ret]
@[simp] theorem wp_eNg {ma : Nv → M D} : Wp (eNg ma ρ) S qd = Wp (ma ρ) S fun d S1 => In d fun i => qd (.int (-i)) S1 := by
  unfold eNg; simp only [wp_bnd, wp_ask]
  congr 1; funext d S1
  cases d <;> first | rfl | (unfold Wp; rfl)
@[simp] theorem wp_tIf {t : Nv → M Bool} {x y : Nv → M α} : Wp (tIf' t x y ρ) S q = Wp (t ρ) S fun b S1 => if b = true then Wp (x ρ) S1 q else Wp (y ρ) S1 q := by
  unfold tIf'; simp only [wp_bnd, wp_ite]
@[simp] theorem wp_tV {m : Nv → M D} : Wp (tV m ρ) S qb = Wp (m ρ) S fun d S1 => So (truD S1 d) fun k => qb k S1 := by
  unfold tV tru; simp only [wp_bnd, wp_ask]
@[simp] theorem wp_tNo {t : Nv → M Bool} : Wp (tNo t ρ) S qb = Wp (t ρ) S fun b S1 => qb (!b) S1 := by
  unfold tNo; simp only [wp_bnd, wp_ret]
@[simp] theorem wp_tTt : Wp (tTt ρ) S qb = qb true S := by unfold Wp; rfl
@[simp] theorem wp_tFf : Wp (tFf ρ) S qb = qb false S := by unfold Wp; rfl
@[simp] theorem wp_tB {m : Nv → M D} : Wp (tB' m ρ) S qb = Wp (m ρ) S fun d S1 => Bl d fun b => qb b S1 := by
  unfold tB' asB
  rw [wp_bnd]
  congr 1; funext d S1
  cases d <;> first | rfl | (unfold Wp; rfl)
@[simp] theorem Bl_bl {b : Bool} {p : Bool → Prop} : Bl (.bl b) p = p b := (rfl)
@[simp] theorem wp_eCh {f g : F2} {ma mb mc : Nv → M D} : Wp (eCh f g ma mb mc ρ) S qd = Wp (ma ρ) S fun x S1 => Wp (mb ρ) S1 fun y S2 => So (f S2 x y) fun z => Bl z fun b => if b = true then Wp (mc ρ) S2 fun w S3 => So (g S3 y w) fun d => qd d S3 else qd (.bl false) S2 := by
  unfold eCh
  simp only [wp_bnd, wp_ask]
  congr 1; funext x S1; congr 1; funext y S2; congr 1; funext z
  cases z with
  | bl b => cases b <;> simp [wp_bnd, wp_ask, wp_ret]
  | _ => unfold Wp; rfl
@[simp] theorem wp_aNil : Wp (aNil ρ) S ql = ql [] S := by unfold Wp; rfl
@[simp] theorem wp_aCons {m : Nv → M D} {r : Nv → M (List D)} : Wp (aCons m r ρ) S ql = Wp (m ρ) S fun d S1 => Wp (r ρ) S1 fun ds S2 => ql (d :: ds) S2 := by
  unfold aCons; simp only [wp_bnd, wp_ret]
@[simp] theorem wp_aStar {m : Nv → M D} {r : Nv → M (List D)} : Wp (aStar m r ρ) S ql = Wp (m ρ) S fun d S1 => So (seqD S1 d) fun xs => Wp (r ρ) S1 fun ds S2 => ql (xs ++ ds) S2 := by
  unfold aStar; simp only [wp_bnd, wp_ret, wp_ask]
@[simp] theorem wp_lim {m : Nv → M (List D)} : Wp (lim m ρ) S ql = Wp (m ρ) S fun ds S1 => if ds.length ≤ sizeLine then ql ds S1 else False := by
  unfold lim; simp only [wp_bnd, wp_ite, wp_ret, wp_bad]
@[simp] theorem wp_eTup {m : Nv → M (List D)} : Wp (eTup m ρ) S qd = Wp (m ρ) S fun ds S1 => if ds.length ≤ sizeLine then qd (.tup ds) S1 else False := by
  unfold eTup; simp only [wp_bnd, wp_ret, wp_lim]
@[simp] theorem wp_eFrz {m : Nv → M (List D)} : Wp (eFrz m ρ) S qd = Wp (m ρ) S fun ds S1 => qd (.lst ds) S1 := by
  unfold eFrz; simp only [wp_bnd, wp_ret]
@[simp] theorem wp_eNew {m : Nv → M (List D)} : Wp (eNew m ρ) S qd = Wp (m ρ) S fun ds S1 => qd (.ref S1.length) (S1 ++ [.lst ds]) := by
  unfold eNew; simp only [wp_bnd]
  congr 1; funext ds S1
  unfold Wp newO; rfl
@[simp] theorem wp_eCall {np : Nat} {m : List D → M D} {ma : Nv → M (List D)} : Wp (eCall np m ma ρ) S qd = Wp (ma ρ) S fun ds S1 => if ds.length = np then Wp (m ds) S1 qd else False := by
  unfold eCall; simp only [wp_bnd, wp_ite, wp_bad]
@[simp] theorem wp_eFl {cs : List Str} {f : Str} {mo : Nv → M D} : Wp (eFl cs f mo ρ) S qd = Wp (mo ρ) S fun r S1 => So (fldD cs f S1 r) fun d => qd d S1 := by
  unfold eFl; simp only [wp_bnd, wp_ask]
@[simp] theorem wp_eSl {ma : Nv → M D} {lo hi : Nv → M (Option Int)} : Wp (eSl ma lo hi ρ) S qd = Wp (ma ρ) S fun x S1 => Wp (lo ρ) S1 fun l S2 => Wp (hi ρ) S2 fun h S3 => So (slD S3 x l h) fun d => qd d S3 := by
  unfold eSl; simp only [wp_bnd, wp_ask]
@[simp] theorem wp_pNo {q : Option Int → Sto → Prop} : Wp (pNo ρ) S q = q none S := by unfold Wp; rfl
@[simp] theorem wp_pSo {m : Nv → M D} {q : Option Int → Sto → Prop} : Wp (pSo m ρ) S q = Wp (m ρ) S fun d S1 => In d fun i => q (some i) S1 := by
  unfold pSo
  simp only [wp_bnd]
  congr 1; funext d S1
  cases d <;> first | rfl | (unfold Wp; rfl)
@[simp] theorem wp_eIs {Ts : List String} {m : Nv → M D} : Wp (eIs Ts m ρ) S qd = Wp (m ρ) S fun d S1 => So (tyD S1 d) fun t => qd (.bl (Ts.any fun T => isTy t T)) S1 := by
  unfold eIs; simp only [wp_bnd, wp_ask, So_map]
@[simp] theorem wp_eRv {m : Nv → M D} : Wp (eRv m ρ) S qd = Wp (m ρ) S fun d S1 => So (revD d) fun d => qd d S1 := by
  unfold eRv; simp only [wp_bnd, wp_ask]
@[simp] theorem wp_eUp {m : Nv → M D} : Wp (eUp m ρ) S qd = Wp (m ρ) S fun d S1 => So (upD d) fun d => qd d S1 := by
  unfold eUp; simp only [wp_bnd, wp_ask]
@[simp] theorem wp_eD0 : Wp (eD0 ρ) S qd = qd (.dct []) S := by unfold Wp; rfl
@[simp] theorem wp_eD1 {k : Str} {i : Int} : Wp (eD1 k i ρ) S qd = qd (.dct [(.str k, .int i)]) S := by unfold Wp; rfl
@[simp] theorem wp_eMt1 {f : FM} {mo : Nv → M D} {mr : Nv → M (List D)} : Wp (eMt1 f mo mr ρ) S qd = Wp (mo ρ) S fun r S1 => So (lstD S1 r) fun _ => Wp (mr ρ) S1 fun ds S2 => Wp (mtM f r ds) S2 qd := by
  unfold eMt1; simp only [wp_bnd, wp_ask, So_map]
@[simp] theorem wp_eMt0 {f : FM} {mo : Nv → M D} : Wp (eMt0 f mo ρ) S qd = Wp (mo ρ) S fun r S1 => So (lstD S1 r) fun _ => Wp (mtM f r []) S1 qd := by
  unfold eMt0; simp only [wp_bnd, wp_ask, So_map]
@[simp] theorem wp_mtM {f : FM} {n : Nat} {xs ds : List D} (e : S[n]? = some (.lst xs)) : Wp (mtM f (.ref n) ds) S qd = So (f S xs ds) fun p => qd p.1 (S.set n (.lst p.2)) := by
  unfold Wp mtM
  simp only [e]
  cases f S xs ds with
  | none => rfl
  | some p => rfl
@[simp] theorem wp_eMe {c m : Str} {np : Nat} {f : List D → M D} {mo : Nv → M D} {ma : Nv → M (List D)} : Wp (eMe c m np f mo ma ρ) S qd = Wp (mo ρ) S fun r S1 => So (isOf c m S1 r) fun r => Wp (ma ρ) S1 fun ds S2 => if ds.length + 1 = np then Wp (f (r :: ds)) S2 qd else False := by
  unfold eMe; simp only [wp_bnd, wp_ask, wp_ite, wp_bad]
@[simp] theorem wp_eMk {c : Str} {np : Nat} {f : List D → M D} {ma : Nv → M (List D)} : Wp (eMk c np f ma ρ) S qd = Wp (ma ρ) S fun ds S1 => if ds.length + 1 = np then Wp (f (.ref S1.length :: ds)) (S1 ++ [.ins c []]) (fun d S2 => d = .non ∧ qd (.ref S1.length) S2) else False := by
  unfold eMk
  simp only [wp_bnd]
  congr 1; funext ds S1
  by_cases h : ds.length + 1 = np
  · rw [if_pos h]
    unfold Wp
    simp only [if_pos h]
    cases f (.ref S1.length :: ds) (S1 ++ [.ins c []]) with
    | ok d S2 => cases d <;> simp
    | ex c fs S2 => rfl
    | bad => rfl
  · rw [if_neg h]
    unfold Wp
    simp only [if_neg h]
@[simp] theorem wp_fnB {n np : Nat} {b : SM} {ds : List D} : Wp (fnB n np b ds) S qd = if ds.length = np then Ws b (ds.map some ++ List.replicate (n - ds.length) none) S (fun f S' => Ed f S' qd) else False := by
  by_cases h : ds.length = np
  · rw [if_pos h]
    unfold Wp fnB Ws
    rw [if_pos h]
    cases b (ds.map some ++ List.replicate (n - ds.length) none) S with
    | ok f S' => cases f <;> rfl
    | ex c fs _ S' => rfl
    | bad => rfl
  · rw [if_neg h]
    unfold Wp fnB
    rw [if_neg h]
/-! statements -/
theorem ws_okf {g : Nv → Sto → Fl} {h : Nv → Sto → Sto} : Ws (fun ρ S => Sr.ok (g ρ S) (h ρ S)) ρ S qf = qf (g ρ S) (h ρ S) := by unfold Ws; rfl
@[simp] theorem ws_sB {m : Nv → M α} {k : α → SM} : Ws (sB m k) ρ S qf = Wp (m ρ) S fun a S' => Ws (k a) ρ S' qf := by
  unfold Ws sB Wp
  cases m ρ S <;> rfl
@[simp] theorem ws_sNx : Ws sNx ρ S qf = qf (.nx ρ) S := by unfold Ws; rfl
@[simp] theorem ws_sSq {m m' : SM} : Ws (sSq m m') ρ S qf = Ws m ρ S fun f S1 => Th f S1 (fun ρ1 S1 => Ws m' ρ1 S1 qf) qf := by
  unfold Ws sSq
  cases m ρ S with
  | ok f S1 => cases f <;> rfl
  | ex c fs _ S' => rfl
  | bad => rfl
@[simp] theorem Th_nx {k : Nv → Sto → Prop} : Th (.nx ρ) S k qf = k ρ S := (rfl)
@[simp] theorem Th_rt {d : D} {k : Nv → Sto → Prop} : Th (.rt d) S k qf = qf (.rt d) S := (rfl)
@[simp] theorem Th_bk {k : Nv → Sto → Prop} : Th (.bk ρ) S k qf = qf (.bk ρ) S := (rfl)
@[simp] theorem Th_ct {k : Nv → Sto → Prop} : Th (.ct ρ) S k qf = qf (.ct ρ) S := (rfl)
@[simp] theorem Ed_nx : Ed (.nx ρ) S qd = qd .non S := (rfl)
@[simp] theorem Ed_rt {d : D} : Ed (.rt d) S qd = qd d S := (rfl)
@[simp] theorem ws_sEx {me : Nv → M D} : Ws (sEx me) ρ S qf = Wp (me ρ) S fun _ S1 => qf (.nx ρ) S1 := by unfold sEx; simp only [ws_sB, ws_okf, ws_sNx]
@[simp] theorem ws_sRt {me : Nv → M D} : Ws (sRt me) ρ S qf = Wp (me ρ) S fun d S1 => qf (.rt d) S1 := by unfold sRt; simp only [ws_sB, ws_okf, ws_sNx]
@[simp] theorem ws_sRn : Ws sRn ρ S qf = qf (.rt .non) S := by unfold Ws; rfl
@[simp] theorem ws_ite {c : Prop} [Decidable c] {m m' : SM} : Ws (if c then m else m') ρ S qf = if c then Ws m ρ S qf else Ws m' ρ S qf := by split <;> rfl
@[simp] theorem ws_sIf {t : Nv → M Bool} {x y : SM} : Ws (sIf t x y) ρ S qf = Wp (t ρ) S fun b S1 => if b = true then Ws x ρ S1 qf else Ws y ρ S1 qf := by unfold sIf; simp only [ws_sB, ws_ite]
@[simp] theorem ws_sSet {i : Nat} {me : Nv → M D} : Ws (sSet i me) ρ S qf = Wp (me ρ) S fun d S1 => qf (.nx (ρ.set i (some d))) S1 := by unfold sSet; simp only [ws_sB, ws_okf, ws_sNx]
@[simp] theorem ws_sAs {me : Nv → M D} {f : TMd} : Ws (sAs me f) ρ S qf = Wp (me ρ) S fun d S1 => So (f d ρ S1) fun p => qf (.nx p.1) p.2 := by
  unfold sAs; rw [ws_sB]
  congr 1; funext d S1
  unfold Ws
  dsimp only
  cases f d ρ S1 with
  | none => rfl
  | some p => rfl
@[simp] theorem ws_sPar {i j : Nat} {ma mb : Nv → M D} : Ws (sPar i j ma mb) ρ S qf = Wp (ma ρ) S fun x S1 => Wp (mb ρ) S1 fun y S2 => qf (.nx ((ρ.set i (some x)).set j (some y))) S2 := by
  unfold sPar; simp only [ws_sB, wp_aCons, wp_aNil, ws_okf]
@[simp] theorem ws_sAug {i : Nat} {f : F2} {me : Nv → M D} : Ws (sAug i f me) ρ S qf = So (ρ[i]?) fun o => So o fun x => Wp (me ρ) S fun y S1 => So (f S1 x y) fun d => qf (.nx (ρ.set i (some d))) S1 := by
  have e : Ws (sAug i f me) ρ S qf = match ρ[i]? with
    | some (some x) => Ws (sB (fun ρ => bnd (me ρ) fun y => ask fun S => f S x y) (fun d ρ S => .ok (.nx (ρ.set i (some d))) S)) ρ S qf
    | _ => False := by
    unfold Ws sAug
    cases ρ[i]? with
    | none => rfl
    | some o => cases o <;> rfl
  rw [e]
  cases ρ[i]? with
  | none => rfl
  | some o =>
    cases o with
    | none => rfl
    | some x =>
      simp only [ws_sB, wp_bnd, wp_ask, So_some, ws_okf]
@[simp] theorem ws_sFor {mi : Nv → M Its'} {tgt : TMd} {body : SM} : Ws (sFor mi tgt body) ρ S qf = Wp (mi ρ) S fun p S1 => Ws (loop p.2 tgt body p.1) ρ S1 qf := by unfold sFor; rw [ws_sB]
@[simp] theorem ws_sAuF {cs : List Str} {f : Str} {g : F2} {mo me : Nv → M D} : Ws (sAuF cs f g mo me) ρ S qf = Wp (mo ρ) S fun r S1 => So (clsD cs S1 r) fun c => So (fldD [c] f S1 r) fun x => Wp (me ρ) S1 fun y S2 => So (g S2 x y) fun z => So (setF [c] f S2 r z) fun S' => qf (.nx ρ) S' := by
  unfold sAuF
  simp only [ws_sB, wp_bnd, wp_ask, ws_sNx]
  congr 1; funext r S1; congr 1; funext c; congr 1; funext x; congr 1; funext y S2; congr 1; funext z
  unfold Wp
  dsimp only
  cases setF [c] f S2 r z <;> rfl
@[simp] theorem ws_sFl {cs : List Str} {f : Str} {mo me : Nv → M D} : Ws (sFl cs f mo me) ρ S qf = Wp (me ρ) S fun d S1 => Wp (mo ρ) S1 fun r S2 => So (setF cs f S2 r d) fun S' => qf (.nx ρ) S' := by
  unfold sFl
  simp only [ws_sB, wp_bnd, ws_sNx]
  congr 1; funext d S1; congr 1; funext r S2
  unfold Wp
  dsimp only
  cases setF cs f S2 r d <;> rfl
@[simp] theorem ws_sAuS {f : F2} {mo mi me : Nv → M D} : Ws (sAuS f mo mi me) ρ S qf = Wp (mo ρ) S fun o S1 => Wp (mi ρ) S1 fun i S2 => So (getL S2 o i) fun x => Wp (me ρ) S2 fun y S3 => So (f S3 x y) fun z => So (setL S3 o i z) fun S' => qf (.nx ρ) S' := by
  unfold sAuS
  simp only [ws_sB, wp_bnd, wp_ask, ws_sNx]
  congr 1; funext o S1; congr 1; funext i S2; congr 1; funext x; congr 1; funext y S3; congr 1; funext z
  unfold Wp putS
  cases setL S3 o i z <;> rfl
end
end Nt

namespace Nt
open PySem PySem.Spec L2
open PyProof.Rows hiding St

section
variable {α β : Type} {S : Sto} {ρ : Nv} {q : α → Sto → Prop} {qd : D → Sto → Prop} {qf : Fl → Sto → Prop} {ql : List D → Sto → Prop}
@[simp] theorem wp_noX {m : M α} : Wp (noX m) S q = Wp m S q := by
  unfold Wp noX
  cases m S <;> rfl
@[simp] theorem wp_eLc {mi : Nv → M Its'} {f : TLf} {c : Nv → M Bool} {e : Nv → M D} {vs : List Nat} : Wp (eLc mi f c e vs ρ) S ql = Wp (mi ρ) S fun p S1 => Wp (lcM p.2 f c e p.1 (wipeD ρ vs)) S1 ql := by
  unfold eLc; simp
/-- a comprehension that changes nothing -/
theorem lc_is {gd : Sto → Prop} {f : TLf} {c : Nv → M Bool} {e : Nv → M D} (g : gd S) (enc : β → D) (p : β → Bool) (v : β → D) : ∀ (xs : List β),
    (∀ b ∈ xs, So (f (enc b)) fun as => Wp (c (setAll ρ as)) S fun k S1 => k = p b ∧ S1 = S ∧ (p b = true → Wp (e (setAll ρ as)) S fun d S2 => d = v b ∧ S2 = S)) →
    lcM gd f c e (xs.map enc) ρ S = .ok ((xs.filter p).map v) S
  | [], _ => by
    rw [List.map_nil]
    unfold lcM
    rw [if_pos g]
    rfl
  | x :: xs, h => by
    have ih := lc_is g enc p v xs fun b hb => h b (List.mem_cons_of_mem _ hb)
    have h1 := h x (List.mem_cons_self ..)
    rw [List.map_cons]
    unfold lcM
    rw [if_pos g]
    cases e1 : f (enc x) with
    | none => rw [e1] at h1; exact h1.elim
    | some as =>
      rw [e1, So_some] at h1
      obtain ⟨k, S1, e2, rfl, rfl, h2⟩ := Wp.iff.mp h1
      dsimp only
      unfold bnd
      rw [e2]
      dsimp only
      cases hp : p x with
      | false =>
        rw [if_neg (by simp)]
        rw [ih, List.filter_cons, hp]
        rfl
      | true =>
        obtain ⟨d, S2, e3, rfl, rfl⟩ := Wp.iff.mp (h2 hp)
        rw [if_pos rfl]
        rw [e3]
        dsimp only
        rw [ih, List.filter_cons, hp]
        rfl
theorem wp_lc {gd : Sto → Prop} {f : TLf} {c : Nv → M Bool} {e : Nv → M D} (enc : β → D) (p : β → Bool) (v : β → D) (xs : List β) (g : gd S)
    (h : ∀ b ∈ xs, So (f (enc b)) fun as => Wp (c (setAll ρ as)) S fun k S1 => k = p b ∧ S1 = S ∧ (p b = true → Wp (e (setAll ρ as)) S fun d S2 => d = v b ∧ S2 = S)) (k : ql ((xs.filter p).map v) S) :
    Wp (lcM gd f c e (xs.map enc) ρ) S ql := by
  rw [Wp.of (lc_is g enc p v xs h)]
  exact k
theorem wp_lcE {gd : Sto → Prop} {f : TLf} {c : Nv → M Bool} {e : Nv → M D} (enc : β → D) (p : β → Bool) (v : β → D) (xs : List β) (g : gd S)
    (h : ∀ b ∈ xs, So (f (enc b)) fun as => Wp (c (setAll ρ as)) S fun k S1 => k = p b ∧ S1 = S ∧ (p b = true → Wp (e (setAll ρ as)) S fun d S2 => d = v b ∧ S2 = S)) :
    Wp (lcM gd f c e (xs.map enc) ρ) S ql = ql ((xs.filter p).map v) S := Wp.of (lc_is g enc p v xs h)
/-! places and membership -/
@[simp] theorem ixN_0 {n : Nat} : ixN (n + 1) 0 = some 0 := by
  unfold ixN
  rw [if_pos (by omega), if_pos (by omega)]
  rfl
@[simp] theorem ixN_1 {n : Nat} : ixN (n + 2) 1 = some 1 := by
  unfold ixN
  rw [if_pos (by omega), if_pos (by omega)]
  rfl
@[simp] theorem ixN_2 {n : Nat} : ixN (n + 3) 2 = some 2 := by
  unfold ixN
  rw [if_pos (by omega), if_pos (by omega)]
  rfl
@[simp] theorem ixN_3 {n : Nat} : ixN (n + 4) 3 = some 3 := by
  unfold ixN
  rw [if_pos (by omega), if_pos (by omega)]
  rfl
@[simp] theorem ixN_m {n : Nat} : ixN (n + 1) (-1) = some n := by
  unfold ixN
  rw [if_neg (by omega), if_pos (by omega)]
  congr 1
  omega
theorem ixN_nat {n i : Nat} (h : i < n) : ixN n (i : Int) = some i := by
  unfold ixN
  rw [if_pos (by omega), if_pos (by omega)]
  simp
theorem flVs_ints : ∀ xs : List Int, flVs (xs.map D.int) = some (xs.map V.int)
  | [] => rfl
  | x :: xs => by
    rw [List.map_cons]
    unfold flVs
    rw [flVs_ints xs]
    rfl
theorem flVs_nats : ∀ xs : List Nat, flVs (xs.map fun i => D.int ((i : Nat) : Int)) = some (xs.map fun i => V.int ((i : Nat) : Int))
  | [] => rfl
  | x :: xs => by
    rw [List.map_cons]
    unfold flVs
    rw [flVs_nats xs]
    rfl
theorem blsD_bls (f : α → Bool) : ∀ xs : List α, blsD (xs.map fun x => D.bl (f x)) = some (xs.map f)
  | [] => rfl
  | x :: xs => by
    rw [List.map_cons]
    unfold blsD
    rw [blsD_bls f xs]
    rfl
theorem intsD_ints (f : α → Int) : ∀ xs : List α, intsD (xs.map fun x => D.int (f x)) = some (xs.map f)
  | [] => rfl
  | x :: xs => by
    rw [List.map_cons]
    unfold intsD
    rw [intsD_ints f xs]
    rfl
theorem inV_ints (x : Int) (xs : List Int) : inV (.int x) (xs.map V.int) = decide (x ∈ xs) := by
  unfold inV
  rw [List.any_map]
  rw [Bool.eq_iff_iff]
  simp [eqV, Function.comp_def]
theorem inD_ints (neg : Bool) (x : Int) (xs : List Int) : inD neg S (.int x) (.tup (xs.map D.int)) = some (.bl (if neg then !decide (x ∈ xs) else decide (x ∈ xs))) := by
  unfold inD
  simp only [flV, seqD, Option.bind_some, flVs_ints, inV_ints]
theorem Wp.eqn {m : M α} {r : α} {S' : Sto} (h : Wp m S fun a S1 => a = r ∧ S1 = S') : Wp m S q = q r S' := by
  obtain ⟨a, S1, e, rfl, rfl⟩ := Wp.iff.mp h
  exact Wp.of e
@[simp] theorem addD_int {i j : Int} : addD S (.int i) (.int j) = some (.int (i + j)) := rfl
@[simp] theorem int2_int {f : Int → Int → D} {i j : Int} : int2 f S (.int i) (.int j) = some (f i j) := rfl
@[simp] theorem truD_bl {b : Bool} : truD S (.bl b) = some b := rfl
@[simp] theorem truD_int {i : Int} : truD S (.int i) = some (i != 0) := rfl
@[simp] theorem tyD_int {i : Int} : tyD S (.int i) = some "int" := rfl
@[simp] theorem tyD_bl {i : Bool} : tyD S (.bl i) = some "bool" := rfl
@[simp] theorem tyD_str {x : Str} : tyD S (.str x) = some "str" := rfl
@[simp] theorem tyD_non : tyD S .non = some "NoneType" := rfl
@[simp] theorem tyD_tup {xs : List D} : tyD S (.tup xs) = some "tuple" := rfl
@[simp] theorem tyD_lst {xs : List D} : tyD S (.lst xs) = some "list" := rfl
@[simp] theorem tyD_dct {xs : List (D × D)} : tyD S (.dct xs) = some "dict" := rfl
@[simp] theorem seqD_tup {xs : List D} : seqD S (.tup xs) = some xs := rfl
@[simp] theorem seqD_lst {xs : List D} : seqD S (.lst xs) = some xs := rfl
@[simp] theorem rdlD_lst {xs : List D} : rdlD S (.lst xs) = some xs := rfl
@[simp] theorem seqD_scr {ns : List Int} : seqD S (.scr ns) = some (ns.map D.int) := rfl
@[simp] theorem ixD_tup {xs : List D} {i : Int} : ixD S (.tup xs) (.int i) = atI xs i := rfl
@[simp] theorem ixD_lst {xs : List D} {i : Int} : ixD S (.lst xs) (.int i) = atI xs i := rfl
@[simp] theorem lenD_tup {xs : List D} : lenD S [.tup xs] = some (.int xs.length) := rfl
@[simp] theorem lenD_lst {xs : List D} : lenD S [.lst xs] = some (.int xs.length) := rfl
@[simp] theorem minD_2 {i j : Int} : minD S [.int i, .int j] = some (.int (if j < i then j else i)) := rfl
@[simp] theorem maxD_2 {i j : Int} : maxD S [.int i, .int j] = some (.int (if j > i then j else i)) := rfl
@[simp] theorem tupleD_lst {xs : List D} : tupleD S [.lst xs] = some (.tup xs) := rfl
@[simp] theorem iaddD_int {i j : Int} : iaddD S (.int i) (.int j) = some (.int (i + j)) := rfl
@[simp] theorem wp_iSeq {m : Nv → M D} {q : Its' → Sto → Prop} : Wp (iSeq m ρ) S q = Wp (m ρ) S fun d S1 => So (seqD S1 d) fun xs => q (xs, srcG S1 d) S1 := by
  unfold iSeq; simp
@[simp] theorem wp_iEnu {m : Nv → M D} {q : Its' → Sto → Prop} : Wp (iEnu m ρ) S q = Wp (m ρ) S fun d S1 => So (seqD S1 d) fun xs => q (pairsI 0 xs, srcG S1 d) S1 := by
  unfold iEnu; simp
@[simp] theorem srcG_tup {xs : List D} {S' : Sto} : srcG S (.tup xs) S' = True := rfl
@[simp] theorem srcG_lst {xs : List D} {S' : Sto} : srcG S (.lst xs) S' = True := rfl
@[simp] theorem wp_iZp {m m' : Nv → M D} {q : Its' → Sto → Prop} : Wp (iZp m m' ρ) S q = Wp (m ρ) S fun d S1 => Wp (m' ρ) S1 fun d' S2 => So (seqD S2 d) fun xs => So (seqD S2 d') fun ys => q (pairs2 xs ys, fun S' => srcG S2 d S' ∧ srcG S2 d' S') S2 := by
  unfold iZp; simp
@[simp] theorem filter_tt (xs : List α) : xs.filter (fun _ => true) = xs := List.filter_eq_self.mpr fun _ _ => rfl
/-- a loop by an invariant -/
def Lp (f : Fl) (S : Sto) (k : Nv → Sto → Prop) (q : Fl → Sto → Prop) : Prop := match f with | .nx ρ => k ρ S | .ct ρ => k ρ S | .bk ρ => q (.nx ρ) S | .rt d => q (.rt d) S
@[simp] theorem Lp_nx {k : Nv → Sto → Prop} : Lp (.nx ρ) S k qf = k ρ S := (rfl)
@[simp] theorem Lp_ct {k : Nv → Sto → Prop} : Lp (.ct ρ) S k qf = k ρ S := (rfl)
@[simp] theorem Lp_bk {k : Nv → Sto → Prop} : Lp (.bk ρ) S k qf = qf (.nx ρ) S := (rfl)
@[simp] theorem Lp_rt {d : D} {k : Nv → Sto → Prop} : Lp (.rt d) S k qf = qf (.rt d) S := (rfl)
theorem ws_loop {gd : Sto → Prop} {tgt : TMd} {body : SM} (enc : β → D) (xs : List β) (I : Nat → Nv → Sto → Prop) (h0 : I 0 ρ S) (hg : ∀ i ρ S, I i ρ S → gd S)
    (step : ∀ i b ρ S, xs[i]? = some b → I i ρ S → So (tgt (enc b) ρ S) fun p => Ws body p.1 p.2 fun f S2 => Lp f S2 (I (i + 1)) qf)
    (hq : ∀ ρ S, I xs.length ρ S → qf (.nx ρ) S) : Ws (loop gd tgt body (xs.map enc)) ρ S qf := by
  suffices h : ∀ (ys : List β) (i : Nat) (ρ : Nv) (S : Sto), xs.drop i = ys → i ≤ xs.length → I i ρ S → Ws (loop gd tgt body (ys.map enc)) ρ S qf from h xs 0 ρ S (List.drop_zero) (Nat.zero_le _) h0
  intro ys
  induction ys with
  | nil =>
    intro i ρ S hd hle hI
    have hl : xs.length ≤ i := List.drop_eq_nil_iff.mp hd
    obtain rfl : i = xs.length := by omega
    unfold Ws
    rw [List.map_nil]
    unfold loop
    rw [if_pos (hg _ _ _ hI)]
    exact hq _ _ hI
  | cons y ys ih =>
    intro i ρ S hd hle hI
    have hx : xs[i]? = some y := by
      have := congrArg (fun l => l[0]?) hd
      simpa using this
    have hd' : xs.drop (i + 1) = ys := by
      have := congrArg List.tail hd
      simpa using this
    have hlt : i + 1 ≤ xs.length := (List.getElem?_eq_some_iff.mp hx).1
    have st := step i y ρ S hx hI
    unfold Ws
    rw [List.map_cons]
    unfold loop
    rw [if_pos (hg _ _ _ hI)]
    cases e : tgt (enc y) ρ S with
    | none => rw [e] at st; exact st.elim
    | some p =>
      obtain ⟨ρ1, S1⟩ := p
      rw [e, So_some] at st
      dsimp only
      unfold Ws at st
      cases e2 : body ρ1 S1 with
      | ex c fs _ S' => rw [e2] at st; exact st.elim
      | bad => rw [e2] at st; exact st.elim
      | ok f S2 =>
        rw [e2] at st
        cases f with
        | nx ρ2 => have h' := ih (i + 1) ρ2 S2 hd' hlt st; unfold Ws at h'; exact h'
        | ct ρ2 => have h' := ih (i + 1) ρ2 S2 hd' hlt st; unfold Ws at h'; exact h'
        | bk ρ2 => exact st
        | rt d => exact st
end
end Nt

namespace Nt
open PySem PySem.Spec L2
open PyProof.Rows hiding St

/-! ### == of plain data -/
mutual
def pln : D → Bool
  | .non => true
  | .int _ => true
  | .str x => PyData.strOk x
  | .tup xs => plns xs
  | .lst xs => plns xs
  | _ => false
def plns : List D → Bool
  | [] => true
  | d :: ds => pln d && plns ds
end
mutual
def dep : D → Nat
  | .tup xs => deps xs + 1
  | .lst xs => deps xs + 1
  | _ => 0
def deps : List D → Nat
  | [] => 0
  | d :: ds => max (dep d) (deps ds)
end
mutual
def pd : D → PyData
  | .int i => .int i
  | .str x => .str x
  | .tup xs => .tuple (pds xs)
  | .lst xs => .list (pds xs)
  | _ => .none
def pds : List D → List PyData
  | [] => []
  | d :: ds => pd d :: pds ds
end
section
variable {S : Sto}
mutual
theorem toP_pln : ∀ {d : D}, pln d = true → toP S d = some (pd d)
  | .non, _ => rfl
  | .int _, _ => rfl
  | .str _, _ => rfl
  | .tup xs, h => by
    unfold toP
    rw [toPs_pln (xs := xs) h]
    rfl
  | .lst xs, h => by
    unfold toP
    rw [toPs_pln (xs := xs) h]
    rfl
  | .bl _, h => by simp [pln] at h
  | .dct _, h => by simp [pln] at h
  | .scr _, h => by simp [pln] at h
  | .ref _, h => by simp [pln] at h
theorem toPs_pln : ∀ {xs : List D}, plns xs = true → toPs S xs = some (pds xs)
  | [], _ => rfl
  | d :: ds, h => by
    unfold plns at h
    rw [Bool.and_eq_true] at h
    unfold toPs
    rw [toP_pln h.1, toPs_pln h.2]
    rfl
end
mutual
theorem pd_lay : ∀ d : D, pln d = true → (pd d).canLay0 = true
  | .non, _ => rfl
  | .int _, _ => rfl
  | .str x, h => by simpa [pd, PyData.canLay0, pln] using h
  | .tup xs, h => by unfold pd; simpa [PyData.canLay0] using pds_lay xs (by simpa [pln] using h)
  | .lst xs, h => by unfold pd; simpa [PyData.canLay0] using pds_lay xs (by simpa [pln] using h)
  | .bl _, _ => rfl
  | .dct _, _ => rfl
  | .scr _, _ => rfl
  | .ref _, _ => rfl
theorem pds_lay : ∀ xs : List D, plns xs = true → PyData.canLayAll0 (pds xs) = true
  | [], _ => rfl
  | d :: ds, h => by
    unfold plns at h
    rw [Bool.and_eq_true] at h
    unfold pds
    simp [PyData.canLayAll0, pd_lay d h.1, pds_lay ds h.2]
end
mutual
theorem pd_dep : ∀ d : D, (pd d).depth = dep d
  | .non => rfl
  | .int _ => rfl
  | .str _ => rfl
  | .tup xs => by unfold pd dep; simp [PyData.depth, pds_dep xs]
  | .lst xs => by unfold pd dep; simp [PyData.depth, pds_dep xs]
  | .bl _ => rfl
  | .dct _ => rfl
  | .scr _ => rfl
  | .ref _ => rfl
theorem pds_dep : ∀ xs : List D, PyData.depthAll (pds xs) = deps xs
  | [] => rfl
  | d :: ds => by
    unfold pds deps
    simp [PyData.depthAll, pd_dep d, pds_dep ds]
end
mutual
theorem pd_eqv : ∀ (d e : D), pln d = true → pln e = true → (PyData.eqv (pd d) (pd e) = true ↔ d = e)
  | .non, e, _, h => by cases e <;> simp [pln, pd, PyData.eqv] at *
  | .int i, e, _, h => by cases e <;> simp [pln, pd, PyData.eqv] at *
  | .str x, e, _, h => by cases e <;> simp [pln, pd, PyData.eqv] at *
  | .tup xs, e, h1, h => by
    cases e with
    | tup ys =>
      have := pds_eqv xs ys (by simpa [pln] using h1) (by simpa [pln] using h)
      simp [pd, PyData.eqv, this]
    | _ => simp [pln, pd, PyData.eqv] at *
  | .lst xs, e, h1, h => by
    cases e with
    | lst ys =>
      have := pds_eqv xs ys (by simpa [pln] using h1) (by simpa [pln] using h)
      simp [pd, PyData.eqv, this]
    | _ => simp [pln, pd, PyData.eqv] at *
  | .bl _, _, h, _ => by simp [pln] at h
  | .dct _, _, h, _ => by simp [pln] at h
  | .scr _, _, h, _ => by simp [pln] at h
  | .ref _, _, h, _ => by simp [pln] at h
theorem pds_eqv : ∀ (d e : List D), plns d = true → plns e = true → (PyData.eqvAll (pds d) (pds e) = true ↔ d = e)
  | [], [], _, _ => by simp [pds, PyData.eqvAll]
  | [], _ :: _, _, _ => by simp [pds, PyData.eqvAll]
  | _ :: _, [], _, _ => by simp [pds, PyData.eqvAll]
  | x :: xs, y :: ys, h1, h2 => by
    unfold plns at h1 h2
    rw [Bool.and_eq_true] at h1 h2
    unfold pds
    simp [PyData.eqvAll, pd_eqv x y h1.1 h2.1, pds_eqv xs ys h1.2 h2.2]
end
open Classical in
theorem eqP_pln {f : Bool → Bool} {a b : D} (ha : pln a = true) (hb : pln b = true) (da : dep a ≤ 64) (db : dep b ≤ 64) : eqP f S a b = some (.bl (f (decide (a = b)))) := by
  unfold eqP
  rw [toP_pln ha, toP_pln hb, Option.bind_some, Option.bind_some, if_pos ⟨by unfold SeqAt.shaped; simp [pd_lay _ ha, pd_dep, da], by unfold SeqAt.shaped; simp [pd_lay _ hb, pd_dep, db]⟩]
  have : PyData.eqv (pd a) (pd b) = decide (a = b) := by
    rw [Bool.eq_iff_iff, pd_eqv a b ha hb]
    simp
  rw [this]
theorem eqP_str {f : Bool → Bool} {a b : Str} (ha : PyData.strOk a = true) (hb : PyData.strOk b = true) : eqP f S (.str a) (.str b) = some (.bl (f (decide (a = b)))) := by
  rw [eqP_pln (a := .str a) (b := .str b) ha hb (Nat.zero_le _) (Nat.zero_le _)]
  by_cases h : a = b <;> simp [h]
@[simp] theorem eqP_int {f : Bool → Bool} {a b : Int} : eqP f S (.int a) (.int b) = some (.bl (f (decide (a = b)))) := by
  rw [eqP_pln rfl rfl (Nat.zero_le _) (Nat.zero_le _)]
  by_cases h : a = b <;> simp [h]
theorem eqP_nstr {f : Bool → Bool} {b : Str} (hb : PyData.strOk b = true) : eqP f S .non (.str b) = some (.bl (f false)) := by
  rw [eqP_pln (a := .non) (b := .str b) rfl hb (Nat.zero_le _) (Nat.zero_le _)]
  simp
theorem plns_map {α : Type} {f : α → D} {xs : List α} (h : ∀ x ∈ xs, pln (f x) = true) : plns (xs.map f) = true := by
  induction xs with
  | nil => rfl
  | cons x xs ih =>
    rw [List.map_cons]
    unfold plns
    rw [h x (List.mem_cons_self ..), ih fun y hy => h y (List.mem_cons_of_mem _ hy)]
    rfl
theorem deps_map {α : Type} {f : α → D} {xs : List α} {n : Nat} (h : ∀ x ∈ xs, dep (f x) ≤ n) : deps (xs.map f) ≤ n := by
  induction xs with
  | nil => exact Nat.zero_le _
  | cons x xs ih =>
    rw [List.map_cons]
    unfold deps
    exact Nat.max_le.mpr ⟨h x (List.mem_cons_self ..), ih fun y hy => h y (List.mem_cons_of_mem _ hy)⟩
end
end Nt

namespace Nt
open PySem PySem.Spec L2
open PyProof.Rows hiding St

section
variable {α β : Type} {S : Sto} {ρ : Nv} {q : α → Sto → Prop} {qd : D → Sto → Prop} {qf : Fl → Sto → Prop} {ql : List D → Sto → Prop}
/-- a comprehension by an invariant -/
theorem wp_lcI {gd : Sto → Prop} {f : TLf} {c : Nv → M Bool} {e : Nv → M D} (enc : β → D) (xs : List β) (I : Nat → List D → Sto → Prop) (h0 : I 0 [] S) (hg : ∀ i ds S, I i ds S → gd S)
    (step : ∀ i b ds S, xs[i]? = some b → I i ds S → So (f (enc b)) fun as => Wp (c (setAll ρ as)) S fun k S1 => if k = true then Wp (e (setAll ρ as)) S1 fun d S2 => I (i + 1) (ds ++ [d]) S2 else I (i + 1) ds S1)
    (hq : ∀ ds S, I xs.length ds S → ql ds S) : Wp (lcM gd f c e (xs.map enc) ρ) S ql := by
  suffices h : ∀ (ys : List β) (i : Nat) (ds : List D) (S : Sto), xs.drop i = ys → i ≤ xs.length → I i ds S → Wp (lcM gd f c e (ys.map enc) ρ) S (fun r S' => ql (ds ++ r) S') from by
    have := h xs 0 [] S List.drop_zero (Nat.zero_le _) h0
    simpa using this
  intro ys
  induction ys with
  | nil =>
    intro i ds S hd hle hI
    have hl : xs.length ≤ i := List.drop_eq_nil_iff.mp hd
    obtain rfl : i = xs.length := by omega
    unfold Wp
    rw [List.map_nil]
    unfold lcM
    rw [if_pos (hg _ _ _ hI)]
    dsimp only
    rw [List.append_nil]
    exact hq _ _ hI
  | cons y ys ih =>
    intro i ds S hd hle hI
    have hx : xs[i]? = some y := by
      have := congrArg (fun l => l[0]?) hd
      simpa using this
    have hd' : xs.drop (i + 1) = ys := by
      have := congrArg List.tail hd
      simpa using this
    have hlt : i + 1 ≤ xs.length := (List.getElem?_eq_some_iff.mp hx).1
    have st := step i y ds S hx hI
    rw [List.map_cons]
    have e0 : lcM gd f c e (enc y :: ys.map enc) ρ S = (match f (enc y) with
      | none => Rs.bad
      | some as => bnd (c (setAll ρ as)) (fun b => if b = true then bnd (e (setAll ρ as)) (fun x => bnd (lcM gd f c e (ys.map enc) ρ) fun r => ret (x :: r)) else lcM gd f c e (ys.map enc) ρ) S) := by
      conv => lhs; unfold lcM
      first
        | (rw [if_pos (hg _ _ _ hI)]; done)
        | (rw [if_pos (hg _ _ _ hI)]; cases f (enc y) <;> rfl)
    cases e1 : f (enc y) with
    | none => rw [e1] at st; exact st.elim
    | some as =>
      rw [e1, So_some] at st
      rw [e1] at e0
      dsimp only at e0
      have e2 : Wp (lcM gd f c e (enc y :: ys.map enc) ρ) S (fun r S' => ql (ds ++ r) S') = Wp (bnd (c (setAll ρ as)) (fun b => if b = true then bnd (e (setAll ρ as)) (fun x => bnd (lcM gd f c e (ys.map enc) ρ) fun r => ret (x :: r)) else lcM gd f c e (ys.map enc) ρ)) S (fun r S' => ql (ds ++ r) S') := by
        unfold Wp
        rw [e0]
      rw [e2, wp_bnd]
      refine Wp.mono st ?_
      intro k S1 h1
      cases k with
      | false =>
        rw [if_neg (by simp)] at h1 ⊢
        exact ih (i + 1) ds S1 hd' hlt h1
      | true =>
        rw [if_pos rfl] at h1 ⊢
        rw [wp_bnd]
        refine Wp.mono h1 ?_
        intro d S2 h2
        rw [wp_bnd]
        refine Wp.mono (ih (i + 1) (ds ++ [d]) S2 hd' hlt h2) ?_
        intro r S3 h3
        rw [wp_ret]
        rw [List.append_assoc] at h3
        exact h3
/-- a while by an invariant that counts down -/
theorem ws_while {c : Nv → M Bool} {b : SM} (I : Nat → Nv → Sto → Prop)
    (step : ∀ k ρ S, I k ρ S → Wp (c ρ) S fun t S1 => if t = true then Ws b ρ S1 fun f S2 => Lp f S2 (fun ρ' S' => ∃ j, j < k ∧ I j ρ' S') qf else qf (.nx ρ) S1) :
    ∀ (n : Nat) (ρ : Nv) (S : Sto), I n ρ S → Ws (sWhile c b) ρ S qf := by
  intro n
  induction n using Nat.strongRecOn with
  | _ n ih =>
    intro ρ S h
    obtain ⟨t, S1, e, h2⟩ := Wp.iff.mp (step n ρ S h)
    unfold Ws
    rw [sWhile_eq]
    unfold wStep sB
    rw [e]
    dsimp only
    cases t with
    | false =>
      rw [if_neg (by simp)] at h2 ⊢
      exact h2
    | true =>
      rw [if_pos rfl] at h2 ⊢
      unfold Ws at h2
      cases e2 : b ρ S1 with
      | ex c fs _ S' => rw [e2] at h2; exact h2.elim
      | bad => rw [e2] at h2; exact h2.elim
      | ok f S2 =>
        rw [e2] at h2
        cases f with
        | nx ρ2 => obtain ⟨j, hj, hI⟩ := h2; have h' := ih j hj ρ2 S2 hI; unfold Ws at h'; exact h'
        | ct ρ2 => obtain ⟨j, hj, hI⟩ := h2; have h' := ih j hj ρ2 S2 hI; unfold Ws at h'; exact h'
        | bk ρ2 => exact h2
        | rt d => exact h2
theorem seq_ref {n : Nat} {xs : List D} (h : S[n]? = some (.lst xs)) : seqD S (.ref n) = some xs := by
  unfold seqD
  dsimp only
  rw [h]
theorem lst_ref {n : Nat} {xs : List D} (h : S[n]? = some (.lst xs)) : lstD S (.ref n) = some xs := by
  unfold lstD
  dsimp only
  rw [h]
theorem rdl_ref {n : Nat} {xs : List D} (h : S[n]? = some (.lst xs)) : rdlD S (.ref n) = some xs := by
  unfold rdlD
  dsimp only
  rw [h]
theorem ix_ref {n : Nat} {xs : List D} {i : Int} (h : S[n]? = some (.lst xs)) : ixD S (.ref n) (.int i) = atI xs i := by
  have e : ixD S (.ref n) (.int i) = (seqD S (.ref n)).bind fun xs => atI xs i := rfl
  rw [e, seq_ref h, Option.bind_some]
theorem get_ref {n : Nat} {xs : List D} {i : Int} (h : S[n]? = some (.lst xs)) : getL S (.ref n) (.int i) = atI xs i := by
  unfold getL
  dsimp only
  rw [h]
theorem set_ref {n : Nat} {xs : List D} {i : Int} {d : D} (h : S[n]? = some (.lst xs)) : setL S (.ref n) (.int i) d = (ixN xs.length i).map fun j => S.set n (.lst (xs.set j d)) := by
  unfold setL
  dsimp only
  rw [h]
theorem len_ref {n : Nat} {xs : List D} (h : S[n]? = some (.lst xs)) : lenD S [.ref n] = some (.int xs.length) := by
  have e : lenD S [.ref n] = (seqD S (.ref n)).map fun xs => .int xs.length := rfl
  rw [e, seq_ref h, Option.map_some]
theorem ref_lt {n : Nat} {o : O} (h : S[n]? = some o) : n < S.length := (List.getElem?_eq_some_iff.mp h).1
theorem put_get {n : Nat} {o : O} (h : n < S.length) : (S.set n o)[n]? = some o := List.getElem?_set_self h
theorem atI_nat {xs : List D} {i : Nat} {d : D} (h : xs[i]? = some d) : atI xs (i : Int) = some d := by
  unfold L2.atI
  rw [ixN_nat (List.getElem?_eq_some_iff.mp h).1, Option.bind_some, h]
theorem cut_fromA {xs : List D} {i : Nat} : Nt.cutD xs (some (i : Int)) none = xs.drop i := by
  unfold Nt.cutD
  rw [HT.sIx_none, HT.sIx_nat]
  rcases Nat.le_total i xs.length with h | h
  · rw [Nat.min_eq_left h]
    exact List.take_of_length_le (by rw [List.length_drop]; omega)
  · rw [Nat.min_eq_right h, List.drop_eq_nil_of_le h]
    simp
theorem cut_toA {xs : List D} {i : Nat} : Nt.cutD xs none (some (i : Int)) = xs.take i := by
  unfold Nt.cutD
  rw [HT.sIx_none, HT.sIx_nat, List.drop_zero, Nat.sub_zero]
  rcases Nat.le_total i xs.length with h | h
  · rw [Nat.min_eq_left h]
  · rw [Nat.min_eq_right h, List.take_of_length_le (Nat.le_refl _), List.take_of_length_le h]
theorem pow_1018 : powD S (.int 10) (.int 18) = some (.int 1000000000000000000) := by
  unfold powD int2c
  dsimp only
  rw [if_pos ⟨by omega, by omega, by decide⟩]
  rfl
theorem pow_1039 : powD S (.int 10) (.int 39) = some (.int (10 ^ 39)) := by
  unfold powD int2c
  dsimp only
  rw [if_pos ⟨by omega, by omega, by decide⟩]
  rfl
theorem mul_int {i j : Int} (h : CMul i j) : mulD S (.int i) (.int j) = some (.int (i * j)) := by
  unfold mulD int2c
  dsimp only
  rw [if_pos (.inl h)]
theorem mod_int {i j : Int} (h : 0 < j) : modD S (.int i) (.int j) = some (.int (i % j)) := by
  unfold modD int2c
  dsimp only
  rw [if_pos h]
theorem fdiv_int {i j : Int} (h : 0 < j) (h2 : j.natAbs.log2 < 9000) : fdivD S (.int i) (.int j) = some (.int (i / j)) := by
  unfold fdivD int2c
  dsimp only
  rw [if_pos ⟨h, h2⟩]
@[simp] theorem intD_int {i : Int} : intD S [.int i] = some (.int i) := rfl
@[simp] theorem intD_bl {k : Bool} : intD S [.bl k] = some (.int (if k then 1 else 0)) := rfl
@[simp] theorem lstD_lst {xs : List D} : lstD S (.lst xs) = some xs := rfl
end
end Nt

namespace Nt
open PySem PySem.Spec L2
open PyProof.Rows hiding St

section
variable {X : Cx} {W : WX} {a b c : Expr} {ma mb mc : Nv → M D} {pos : Pos}
/-- a, b, c = x, y, z: plain local names -/
def sPar3 (i j l : Nat) (ma mb mc : Nv → M D) : SM := sB (aCons ma (aCons mb (aCons mc aNil))) fun ds ρ S => match ds with | [d, d', d''] => .ok (.nx (((ρ.set i (some d)).set j (some d')).set l (some d''))) S | _ => .bad
theorem ds_par3 (i j l : Nat) {x y z : Str} {px py pz : Pos} {kt k2 pt pt2} (ha : DE X W a ma) (hb : DE X W b mb) (hd : DE X W c mc) (hc : X.calm = true) (hN : X.N.Nodup) (hi : X.N[i]? = some x := by rfl) (hj : X.N[j]? = some y := by rfl) (hl : X.N[l]? = some z := by rfl) (hij : i ≠ j := by decide) (hil : i ≠ l := by decide) (hjl : j ≠ l := by decide)
    (hx : X.env.scope.names.lookup x = some .local := by rfl) (hy : X.env.scope.names.lookup y = some .local := by rfl) (hz : X.env.scope.names.lookup z = some .local := by rfl)
    (hw : swappedStores [.Tuple [.Name x px, .Name y py, .Name z pz] kt pt] (.Tuple [a, b, c] k2 pt2) X.env = pure (some [x, y, z]) := by rfl)
    (hs : swapsWithSole [.Tuple [.Name x px, .Name y py, .Name z pz] kt pt] (.Tuple [a, b, c] k2 pt2) pos.line X.env = pure false := by rfl)
    (hsa : starEach [a, b, c] X.env = (false, eval a X.env) :: starEach [b, c] X.env := by rfl) (hsb : starEach [b, c] X.env = (false, eval b X.env) :: starEach [c] X.env := by rfl) (hsc : starEach [c] X.env = (false, eval c X.env) :: starEach [] X.env := by rfl) :
    DS X W (.Assign [.Tuple [.Name x px, .Name y py, .Name z pz] kt pt] (.Tuple [a, b, c] k2 pt2) pos) (sPar3 i j l ma mb mc) := by
  refine ⟨PSimp (ps_par3 hc hN hi hj hl hij hil hjl hx hy hz (da_cons ha (da_cons hb (da_cons hd da_nil hsc) hsb) hsa).pa hw hs) ?_⟩
  rintro D σ H ⟨G, ψ, S, ρ, R, E, F⟩
  refine ⟨G, ψ, S, ρ, R, E, F.sB E fun ds S1 G1 ψ1 H1 u R1 F1 vs dvs => ?_⟩
  cases dvs with
  | nil => exact F1.elim
  | cons r1 t =>
    cases t with
    | nil => exact F1.elim
    | cons r2 t =>
      cases t with
      | nil => exact F1.elim
      | cons r3 t =>
        cases t with
        | nil => exact ⟨_, _, _, rfl, F1 _ _ _ _ Ext.refl R1 ((((E.up u).set i r1).set j r2).set l r3)⟩
        | cons _ _ => exact F1.elim
/-- range(a, b, -1) -/
def downD (hi : Int) (n : Nat) : List D := (List.range n).map fun k => D.int (hi - ((k : Nat) : Int))
def rgDn (a b c : D) : M Its' := match a, b, c with
  | .int i, .int j, .int k => if k = -1 ∧ -(2 ^ 62) ≤ i ∧ i < 2 ^ 62 ∧ -(2 ^ 62) ≤ j ∧ j < 2 ^ 62 ∧ (i - j).toNat ≤ sizeLine then ret (downD i (i - j).toNat, fun _ => True) else bad
  | _, _, _ => bad
def iRg3 (ma mb mc : Nv → M D) : Nv → M Its' := fun ρ => bnd (ma ρ) fun a => bnd (mb ρ) fun b => bnd (mc ρ) fun c => rgDn a b c
theorem itD_down {K : PySem.W.Frag} {mg : Str → Option Value} {G : Hp} {ψ : List Addr} {i : Int} {n : Nat} (h : n ≤ sizeLine) : ItD K mg (fun _ => True) (Itc i (-1) n) G ψ (downD i n) := by
  refine ⟨by simpa [downD] using h, fun G' ψ' S' H' sg sp R' gd => ?_, fun G' ψ' S' H' sg sp R' gd k d hd => ?_⟩
  · show n ≤ (downD i n).length; simp [downD]
  · unfold downD at hd
    rw [List.getElem?_map] at hd
    cases q : (List.range n)[k]? with
    | none => rw [q] at hd; cases hd
    | some m =>
      rw [q] at hd
      cases hd
      obtain ⟨h1, h2⟩ := List.getElem?_eq_some_iff.mp q
      simp at h1 h2
      subst h2
      refine ⟨h1, fun x H'' y => ?_⟩
      obtain ⟨e1, e2⟩ := y
      subst e1; subst e2
      rw [show i + ((k : Nat) : Int) * -1 = i - ((k : Nat) : Int) by omega]
      exact ⟨G', Ext.refl, R', .int _⟩
theorem di_r3 {tg : Expr} {p : Pos} (hm : X.mg "range" = none) (ha : DE X W a ma) (hb : DE X W b mb) (hd : DE X W c mc) (hg : Gl X "range" := by rfl)
    (hsa : starEach [a, b, c] X.env = (false, eval a X.env) :: starEach [b, c] X.env := by rfl) (hsb : starEach [b, c] X.env = (false, eval b X.env) :: starEach [c] X.env := by rfl) (hsc : starEach [c] X.env = (false, eval c X.env) :: starEach [] X.env := by rfl)
    (hpl : (backTo pos (starEach [b, c] X.env)).any (·.1) = false := by rfl) : DI X W tg (.Call (.Name "range" p) [a, b, c] [] pos) (iRg3 ma mb mc) := by
  refine ⟨PIimp (pi_range3 hg hm (pa_cons ha.pe (pa_cons hb.pe (pa_cons hd.pe pa_nil hsc) hsb) hsa) hsa hpl) ?_⟩
  rintro σ H Rr ⟨G, ψ, S, ρ, R, E, F⟩
  refine ⟨G, ψ, S, ρ, R, E, F.bnd fun d S1 G1 ψ1 H1 X1 R1 F1 v dv => ⟨G1, ψ1, S1, ρ, R1, E.up X1, F1.bnd fun d2 S2 G2 ψ2 H2 X2 R2 F2 v2 dv2 => ⟨G2, ψ2, S2, ρ, R2, (E.up X1).up X2, F2.bnd fun d3 S3 G3 ψ3 H3 X3 R3 F3 v3 dv3 => ?_⟩⟩⟩
  unfold rgDn at F3
  cases dv with
  | int i =>
    cases dv2 with
    | int j =>
      cases dv3 with
      | int k =>
        dsimp only at F3
        split at F3
        · rename_i hc
          obtain ⟨rfl, h1, h2, h3, h4, h5⟩ := hc
          exact ⟨i, j, -1, (i - j).toNat, rfl, RgC.neg h1 h2 h3 h4, F3.done Ext.refl R3 _ _ _ Ext.refl R3 (itD_down h5)⟩
        · exact F3.elim
      | _ => exact F3.elim
    | _ => cases dv3 <;> exact F3.elim
  | _ => cases dv2 <;> cases dv3 <;> exact F3.elim
end
/-! ### what these answer -/
section
variable {α : Type} {S : Sto} {ρ : Nv} {qf : Fl → Sto → Prop} {qi : Its' → Sto → Prop}
@[simp] theorem ws_sPar3 {i j l : Nat} {ma mb mc : Nv → M D} : Ws (sPar3 i j l ma mb mc) ρ S qf = Wp (ma ρ) S fun x S1 => Wp (mb ρ) S1 fun y S2 => Wp (mc ρ) S2 fun z S3 => qf (.nx (((ρ.set i (some x)).set j (some y)).set l (some z))) S3 := by
  unfold sPar3; simp only [ws_sB, wp_aCons, wp_aNil, ws_okf]
@[simp] theorem wp_iRg3 {ma mb mc : Nv → M D} : Wp (iRg3 ma mb mc ρ) S qi = Wp (ma ρ) S fun a S1 => Wp (mb ρ) S1 fun b S2 => Wp (mc ρ) S2 fun c S3 => Wp (rgDn a b c) S3 qi := by
  unfold iRg3; simp only [wp_bnd]
theorem wp_down {n : Nat} (h : n ≤ 1000) : Wp (rgDn (.int ((n : Nat) - 1)) (.int (-1)) (.int (-1))) S qi = qi (((List.range n).map fun k => .int ((n : Int) - 1 - (k : Nat))), fun _ => True) S := by
  have e : rgDn (.int ((n : Nat) - 1)) (.int (-1)) (.int (-1)) = ret (downD ((n : Int) - 1) n, fun _ => True) := by
    unfold rgDn
    dsimp only
    rw [show ((n : Int) - 1 - -1).toNat = n by omega, if_pos ⟨rfl, by omega, by omega, by omega, by omega, by rw [sizeLine_eq]; omega⟩]
  rw [e]
  exact wp_ret
theorem ws_try_ok {mb : SM} {c : Str} {i : Nat} {its : List Sit} (h : Ws mb ρ S qf) : Ws (sTryR mb c i its) ρ S qf := by
  unfold Ws at h ⊢
  unfold sTryR
  cases e : mb ρ S with
  | ok f S' => rw [e] at h; exact h
  | ex c fs ρ' S' => rw [e] at h; exact h.elim
  | bad => rw [e] at h; exact h.elim
theorem ws_try_ex {mb : SM} {c : Str} {i : Nat} {its : List Sit} {fs : List (Str × D)} {ρ' : Nv} {S' : Sto} {ds : List D} (h : mb ρ S = .ex c fs ρ' S') (hi : i < ρ'.length) (hd : sitsD fs its = some ds) (k : qf (.rt (.tup ds)) S') : Ws (sTryR mb c i its) ρ S qf := by
  unfold Ws sTryR
  rw [h]
  dsimp only
  rw [if_pos ⟨rfl, hi⟩, hd]
  exact k
end
end Nt
namespace Nt
open PySem PySem.Spec L2
open PyProof.Rows hiding St
theorem cz_tr {X : Cx} {W W' : WX} {k : Nat} {pn : List (Addr × Obj)} {xe : Value → Shared → Prop} (cz : Cz X W k) (tk : Takes (X.tr pn xe) W') (po : PassesOwn (model X.prog X.w) X.A X.env xe) : Cz (X.tr pn xe) W' k := ⟨tk, po, cz.calm, cz.room⟩
end Nt
namespace Nt
open PySem PySem.Spec L2 Nx
open PyProof.Rows hiding St
theorem ds_raise2 {X : Cx} {W : WX} {e : Expr} {es : List Expr} {mr : Nv → M (List D)} {file : Str} {d : XcD} {p pos pos2 : Pos} {k : Nat} {x : Str} {fs : List Str} (T : DX X.prog X.w X.K X.mg X.base file d) (hc : X.calm = true) (tk : Takes X W) (hr : Room k X.A) (ha : DA X W (e :: es) mr)
    (hx : x = d.name := by rfl) (hfs : fs = d.fields := by rfl) (hs : fs.length ≤ 100 := by decide) (hg : Gl X x := by rfl) (hk : 3 ≤ k := by decide) (hdb : (x == ("__debug__" : Str)) = false := by decide)
    (he : starEach (e :: es) X.env = (false, eval e X.env) :: starEach es X.env := by rfl) (hpl : (backTo pos (starEach es X.env)).any (·.1) = false := by rfl) : DS X W (.Raise (some (.Call (.Name x p) (e :: es) [] pos)) none pos2) (sRs x fs mr) := by
  subst hx hfs
  exact ds_raise T hc tk hr ha hs hg hk hdb he hpl
theorem ds_tryR2 {X : Cx} {file : Str} {xd : XcD} {W : WX} {n x : Str} {i : Nat} {body : List Stmt} {mb : SM} {elts : List Expr} {its : List Sit} {np rp pos pos' pt : Pos} {kt} (T : Xc X.K X.mg file xd) (hx : x = xd.name) (tk : Takes X W) (hs : X.stack = X.env :: X.outer) (hf : X.env.frame = some X.env.locals) (hN : X.N.Nodup)
    (hb : ∀ (W' : WX) (pn : List (Addr × Obj)) (xe : Value → Shared → Prop), Takes (X.tr pn xe) W' → PassesOwn (model X.prog X.w) X.A X.env xe → DSs (X.tr pn xe) W' body mb) (hss : Sits n elts its) (hfl : ∀ f, Sit.fld f ∈ its → f ∈ xd.fields) (hil : its.length ≤ 1000)
    (hi : X.N[i]? = some n) (hln : X.env.kindOf n = some .local) (hn : Vis X.env.scope n) (hg : Gl X x) (hdx : (x == ("__debug__" : Str)) = false) (hdb : (n == ("__debug__" : Str)) = false) (hcd : (n == ("__classdict__" : Str)) = false)
    (hat : ∀ f p, attributeBase (.Name n p) f X.env (eval (.Name n p) X.env) = eval (.Name n p) X.env) :
    DS X W (.Try body [.ExceptHandler (some (.Name x np)) (some n) [.Return (some (.Tuple elts kt pt)) rp] pos'] [] [] pos) (sTryR mb x i its) := by
  subst hx
  exact ds_tryR T tk hs hf hN hb hss hfl hil hi hln hn hg hdx hdb hcd hat
end Nt

namespace Nt
open PySem PySem.Spec L2
open PyProof.Rows hiding St

/-! ### the law's own drawing -/
noncomputable def b_bag : SM := sRt (eNew (lim (aCons (eC (.int 0)) (aCons (eC (.int 1234567891)) (aCons (eC (.int 0)) (aCons (eFrz (eLc (iSeq (eSl (eV 0) (pNo) (pSo (eC (.int 63))))) (lN 1) (tTt) (eB absD (aCons (eV 1) (aNil))) [1])) (aNil)))))))
noncomputable def b_take1 : SM := sIf (tB' (eO eqD (eO ixD (eV 0) (eC (.int 0))) (eC (.int 0)))) (sSq (sSet 2 (eO ixD (eO addD (eSl (eO ixD (eV 0) (eC (.int 3))) (pSo (eO ixD (eV 0) (eC (.int 2)))) (pNo)) (eFrz (lim (aCons (eC (.int 0)) (aNil))))) (eC (.int 0)))) (sSq (sAuS iaddD (eV 0) (eC (.int 2)) (eC (.int 1))) (sSq (sIf (tB' (eO geD (eV 2) (eO powD (eC (.int 10)) (eC (.int 18))))) (sAs (eV 2) (gSb (eV 0) (eC (.int 0)))) (sNx)) (sSq (sSet 3 (eO addD (eO addD (eO mulD (eO ixD (eV 0) (eC (.int 1))) (eC (.int 48271))) (eO modD (eB intD (aCons (eV 2) (aNil))) (eC (.int 2147483647)))) (eO mulD (eC (.int 7919)) (eO ixD (eV 0) (eC (.int 2)))))) (sAs (eO modD (eB intD (aCons (eV 3) (aNil))) (eC (.int 2147483647))) (gSb (eV 0) (eC (.int 1)))))))) (sNx)
noncomputable def b_take2 : SM := sSq (sIf (tB' (eO gtD (eO ixD (eV 0) (eC (.int 0))) (eC (.int 0)))) (sSq (sSet 4 (eO modD (eB intD (aCons (eO ixD (eV 0) (eC (.int 0))) (aNil))) (eV 1))) (sSq (sAs (eO fdivD (eB intD (aCons (eO ixD (eV 0) (eC (.int 0))) (aNil))) (eV 1)) (gSb (eV 0) (eC (.int 0)))) (sRt (eV 4)))) (sNx)) (sSq (sSet 5 (eO modD (eB intD (aCons (eO mulD (eO addD (eO ixD (eV 0) (eC (.int 1))) (eC (.int 1))) (eC (.int 39373))) (aNil))) (eC (.int 1000000007)))) (sSq (sSet 6 (eO modD (eB intD (aCons (eO mulD (eO modD (eB intD (aCons (eO mulD (eV 5) (eV 5)) (aNil))) (eC (.int 998244353))) (eC (.int 30011))) (aNil))) (eC (.int 998244353)))) (sRt (eO modD (eB intD (aCons (eO fdivD (eV 6) (eC (.int 7))) (aNil))) (eV 1)))))
noncomputable def b_take : SM := sSq b_take1 b_take2
noncomputable def m_take : List D → M D := fnB 7 2 b_take
noncomputable def b_some : SM := sRt (eO ixD (eV 1) (eCall 2 m_take (aCons (eV 0) (aCons (eB lenD (aCons (eV 1) (aNil))) (aNil)))))
noncomputable def m_some : List D → M D := fnB 2 2 b_some
noncomputable def b_mixed : SM := sSq (sPar 2 3 (eNew (nB listD (aCons (eV 1) (aNil)))) (eNew (lim (aNil)))) (sSq (sWhile (tB' (eO neD (eV 2) (eFrz (lim (aNil))))) (sEx (eMt1 appendF (eV 3) (aCons (eMt1 popF (eV 2) (aCons (eCall 2 m_take (aCons (eV 0) (aCons (eB lenD (aCons (eV 2) (aNil))) (aNil)))) (aNil))) (aNil))))) (sRt (eV 3)))
noncomputable def b_alike : SM := sSq (sPar 2 3 (eNew (lim (aCons (eTup (aCons (eV 0) (aCons (eV 1) (aNil)))) (aNil)))) (eC (.int 0))) (sSq (sWhile (tB' (eO ltD (eV 3) (eB lenD (aCons (eV 2) (aNil))))) (sSq (sAs (eO ixD (eV 2) (eV 3)) (gTp 2 (gCs (gN 4) (gCs (gN 5) (gNl))))) (sSq (sAug 3 iaddD (eC (.int 1))) (sSq (sIf (tIf' (tB' (eO neD (eIs ["bool"] (eV 4)) (eIs ["bool"] (eV 5)))) tTt (tB' (eO neD (eIs ["str"] (eV 4)) (eIs ["str"] (eV 5))))) (sRt (eC (.bl false))) (sNx)) (sSq (sIf (tB' (eO neD (eIs ["tuple", "list"] (eV 4)) (eIs ["tuple", "list"] (eV 5)))) (sRt (eC (.bl false))) (sNx)) (sIf (tV (eIs ["tuple", "list"] (eV 4))) (sSq (sIf (tIf' (tB' (eO neD (eIs ["tuple"] (eV 4)) (eIs ["tuple"] (eV 5)))) tTt (tB' (eO neD (eB lenD (aCons (eV 4) (aNil))) (eB lenD (aCons (eV 5) (aNil)))))) (sRt (eC (.bl false))) (sNx)) (sEx (eMt1 extendF (eV 2) (aCons (eFrz (zpL (aCons (eV 4) (aCons (eV 5) (aNil))))) (aNil))))) (sIf (tB' (eO neD (eV 4) (eV 5))) (sRt (eC (.bl false))) (sNx)))))))) (sRt (eC (.bl true))))

def bagL (w s p : Int) (cs : List Int) : List D := [.int w, .int s, .int p, .lst (cs.map .int)]
def Bag (S : Sto) (b : Nat) : Prop := ∃ (w s : Int) (p : Nat) (cs : List Int), S[b]? = some (.lst (bagL w s (p : Nat) cs)) ∧ 0 ≤ w ∧ 0 ≤ s ∧ s < 2147483647 ∧ cs.length ≤ 63
/-- nothing that stood is changed -/
structure Up (S S' : Sto) : Prop where
  len : S.length ≤ S'.length
  same : ∀ k, k < S.length → S'[k]? = S[k]?
/-- nothing that stood is changed but the bag -/
structure Dr (S S' : Sto) (b : Nat) : Prop where
  bag : Bag S' b
  len : S.length ≤ S'.length
  same : ∀ k, k < S.length → k ≠ b → S'[k]? = S[k]?
section
variable {α β : Type} {S S' S2 : Sto} {ρ : Nv} {b : Nat} {q : α → Sto → Prop} {qd : D → Sto → Prop} {qf : Fl → Sto → Prop} {ql : List D → Sto → Prop}
theorem Bag.lt (h : Bag S b) : b < S.length := by
  obtain ⟨w, s, p, cs, e, _⟩ := h
  exact ref_lt e
theorem Up.refl : Up S S := ⟨Nat.le_refl _, fun _ _ => rfl⟩
theorem Up.trans (h : Up S S') (k : Up S' S2) : Up S S2 := ⟨Nat.le_trans h.len k.len, fun i hi => by rw [k.same i (Nat.lt_of_lt_of_le hi h.len), h.same i hi]⟩
theorem Up.snoc {o : List O} : Up S (S ++ o) := ⟨by simp, fun k hk => List.getElem?_append_left hk⟩
theorem Up.of (h : ∀ k, k < S.length → S'[k]? = S[k]?) : Up S S' := by
  refine ⟨?_, h⟩
  cases hn : S.length with
  | zero => exact Nat.zero_le _
  | succ n =>
    have := h n (by omega)
    rw [List.getElem?_eq_getElem (show n < S.length by omega)] at this
    have := (List.getElem?_eq_some_iff.mp this).1
    omega
theorem Up.bag (u : Up S S') (h : Bag S b) : Bag S' b := by
  have hl := h.lt
  obtain ⟨w, s, p, cs, e, r⟩ := h
  exact ⟨w, s, p, cs, by rw [u.same b hl]; exact e, r⟩
theorem Dr.refl (h : Bag S b) : Dr S S b := ⟨h, Nat.le_refl _, fun _ _ _ => rfl⟩
theorem Dr.trans (h : Dr S S' b) (k : Dr S' S2 b) : Dr S S2 b := ⟨k.bag, Nat.le_trans h.len k.len, fun i hi hb => by rw [k.same i (Nat.lt_of_lt_of_le hi h.len) hb, h.same i hi hb]⟩
theorem Up.dr (u : Up S S') (h : Bag S b) : Dr S S' b := ⟨u.bag h, u.len, fun k hk _ => u.same k hk⟩
theorem take2_ok (w s p : Int) (cs : List Int) (e : S[b]? = some (.lst (bagL w s p cs))) (hw : 0 ≤ w) (hp : 0 ≤ p) (hs : 0 ≤ s) (hs2 : s < 2147483647) (hc : cs.length ≤ 63) {m : Int} (h0 : 0 < m) (h1 : m.natAbs.log2 < 9000) (a2 a3 a4 a5 a6 : Option D) :
    Ws b_take2 [some (.ref b), some (.int m), a2, a3, a4, a5, a6] S (fun f S' => Ed f S' fun d S' => ∃ v, d = .int v ∧ 0 ≤ v ∧ v < m ∧ Bag S' b ∧ S'.length = S.length ∧ ∀ k, k ≠ b → S'[k]? = S[k]?) := by
  have hb := ref_lt e
  obtain ⟨pn, rfl⟩ : ∃ pn : Nat, p = pn := ⟨p.toNat, by omega⟩
  unfold bagL at e
  unfold b_take2
  have t1 : ∀ w' : Int, atI [D.int w', .int s, .int (pn : Nat), .lst (cs.map .int)] 0 = some (.int w') := fun _ => rfl
  have t2 : ∀ w' : Int, atI [D.int w', .int s, .int (pn : Nat), .lst (cs.map .int)] 1 = some (.int s) := fun _ => rfl
  simp [ix_ref e, t1, t2]
  by_cases hw0 : 0 < w
  · simp [hw0, mod_int h0, fdiv_int h0 h1, gSb, eV, eC, ret, set_ref e, ix_ref e, t1]
    refine ⟨Int.emod_nonneg _ (by omega), Int.emod_lt_of_pos _ h0, ⟨w / m, s, pn, cs, ?_, ?_, hs, hs2, hc⟩, fun k hk => ?_⟩
    · rw [put_get hb]; rfl
    · exact Int.ediv_nonneg hw (by omega)
    · rw [List.getElem?_set_ne (Ne.symm hk)]
  · simp [hw0, ix_ref e, t2]
    have b1 : 0 ≤ (s + 1) * 39373 % 1000000007 := Int.emod_nonneg _ (by omega)
    have b2 : (s + 1) * 39373 % 1000000007 < 1000000007 := Int.emod_lt_of_pos _ (by omega)
    generalize hg : (s + 1) * 39373 % 1000000007 = g at b1 b2
    have m1 : mulD S (.int (s + 1)) (.int 39373) = some (.int ((s + 1) * 39373)) := mul_int (.inr ⟨by omega, by omega⟩)
    have m2 : mulD S (.int g) (.int g) = some (.int (g * g)) := mul_int (.inr ⟨by omega, by omega⟩)
    have m3 : mulD S (.int (g * g % 998244353)) (.int 30011) = some (.int (g * g % 998244353 * 30011)) := mul_int (.inr ⟨by omega, by omega⟩)
    have d1 : ∀ i : Int, modD S (.int i) (.int 1000000007) = some (.int (i % 1000000007)) := fun i => mod_int (by omega)
    have d2 : ∀ i : Int, modD S (.int i) (.int 998244353) = some (.int (i % 998244353)) := fun i => mod_int (by omega)
    have d3 : ∀ i : Int, fdivD S (.int i) (.int 7) = some (.int (i / 7)) := fun i => fdiv_int (by omega) (by decide)
    simp [m1, d1, hg, m2, d2, m3, d3, mod_int h0]
    exact ⟨Int.emod_nonneg _ (by omega), Int.emod_lt_of_pos _ h0, w, s, pn, cs, e, hw, hs, hs2, hc⟩
theorem take_ok (h : Bag S b) {m : Int} (h0 : 0 < m) (h1 : m.natAbs.log2 < 9000) : Wp (m_take [.ref b, .int m]) S fun d S' => ∃ v, d = .int v ∧ 0 ≤ v ∧ v < m ∧ Bag S' b ∧ S'.length = S.length ∧ ∀ k, k ≠ b → S'[k]? = S[k]? := by
  obtain ⟨w, s, p, cs, e, hw, hs, hs2, hc⟩ := h
  have hb := ref_lt e
  unfold m_take b_take
  simp only [wp_fnB]
  rw [if_pos (show [D.ref b, D.int m].length = 2 from rfl)]
  show Ws (sSq b_take1 b_take2) [some (.ref b), some (.int m), none, none, none, none, none] S _
  rw [ws_sSq]
  unfold b_take1
  unfold bagL at e
  have t0 : ∀ w s p c : D, atI [w, s, p, c] 0 = some w := fun _ _ _ _ => rfl
  have t1 : ∀ w s p c : D, atI [w, s, p, c] 1 = some s := fun _ _ _ _ => rfl
  have t2 : ∀ w s p c : D, atI [w, s, p, c] 2 = some p := fun _ _ _ _ => rfl
  have t3 : ∀ w s p c : D, atI [w, s, p, c] 3 = some c := fun _ _ _ _ => rfl
  simp [ix_ref e, t0, t1, t2, t3]
  by_cases hw0 : w = 0
  · subst hw0
    have hcut : slD S (.lst (cs.map .int)) (some (p : Int)) none = some (.lst ((cs.map .int).drop p)) := by
      show (rdlD S (.lst (cs.map .int))).map (fun xs => D.lst (Nt.cutD xs (some (p : Int)) none)) = _
      rw [rdlD_lst, Option.map_some, cut_fromA]
    obtain ⟨cell, hcell⟩ : ∃ cell : Int, atI ((cs.map D.int).drop p ++ [.int 0]) 0 = some (.int cell) := by
      rw [← List.map_drop]
      cases hd : cs.drop p with
      | nil => exact ⟨0, rfl⟩
      | cons x xs =>
        refine ⟨x, ?_⟩
        rw [List.map_cons, List.cons_append]
        unfold L2.atI
        rw [List.length_cons, ixN_0]
        rfl
    have hadd : addD S (.lst ((cs.map .int).drop p)) (.lst [.int 0]) = some (.lst ((cs.map .int).drop p ++ [.int 0])) := by
      show ((lstD S (.lst ((cs.map .int).drop p))).bind fun xs => (lstD S (.lst [.int 0])).bind fun ys => if xs.length + ys.length ≤ sizeLine then some (D.lst (xs ++ ys)) else none) = _
      rw [lstD_lst, lstD_lst, Option.bind_some, Option.bind_some, if_pos (by rw [sizeLine_eq]; simp; omega)]
    have hone : (1 : Nat) ≤ sizeLine := by decide
    have e1 : (S.set b (O.lst [.int 0, .int s, .int ((p : Int) + 1), .lst (cs.map .int)]))[b]? = some (O.lst [.int 0, .int s, .int ((p : Int) + 1), .lst (cs.map .int)]) := put_get hb
    have e2 : (S.set b (O.lst [.int cell, .int s, .int ((p : Int) + 1), .lst (cs.map .int)]))[b]? = some (O.lst [.int cell, .int s, .int ((p : Int) + 1), .lst (cs.map .int)]) := put_get hb
    have m1 : ∀ S', mulD S' (.int s) (.int 48271) = some (.int (s * 48271)) := fun _ => mul_int (.inr ⟨by omega, by omega⟩)
    have m2 : ∀ S' i, mulD S' (.int 7919) (.int i) = some (.int (7919 * i)) := fun _ _ => mul_int (.inl ⟨by omega, by omega⟩)
    have d1 : ∀ S' i, modD S' (.int i) (.int 2147483647) = some (.int (i % 2147483647)) := fun _ _ => mod_int (by omega)
    have fin : ∀ (w' x : Int) (a2 a3 : Option D), 0 ≤ w' → Ws b_take2 [some (.ref b), some (.int m), a2, a3, none, none, none] (S.set b (O.lst [.int w', .int (x % 2147483647), .int ((p : Int) + 1), .lst (cs.map .int)])) (fun f S' => Ed f S' fun d S' => ∃ v, d = .int v ∧ 0 ≤ v ∧ v < m ∧ Bag S' b ∧ S'.length = S.length ∧ ∀ k, ¬k = b → S'[k]? = S[k]?) := by
      intro w' x a2 a3 hw'
      have hm1 := Int.emod_nonneg x (show (2147483647 : Int) ≠ 0 by omega)
      have hm2 := Int.emod_lt_of_pos x (show (0 : Int) < 2147483647 by omega)
      refine Ws.mono (take2_ok w' (x % 2147483647) ((p : Int) + 1) cs (by rw [put_get hb]; rfl) hw' (by omega) hm1 hm2 hc h0 h1 a2 a3 none none none) ?_
      intro f S' h
      have z : ∀ d, (∃ v, d = D.int v ∧ 0 ≤ v ∧ v < m ∧ Bag S' b ∧ S'.length = (S.set b (O.lst [.int w', .int (x % 2147483647), .int ((p : Int) + 1), .lst (cs.map .int)])).length ∧ ∀ k, k ≠ b → S'[k]? = (S.set b (O.lst [.int w', .int (x % 2147483647), .int ((p : Int) + 1), .lst (cs.map .int)]))[k]?) → (∃ v, d = D.int v ∧ 0 ≤ v ∧ v < m ∧ Bag S' b ∧ S'.length = S.length ∧ ∀ k, ¬k = b → S'[k]? = S[k]?) := by
        rintro d ⟨v, h1, h2, h3, h4, h5, h6⟩
        exact ⟨v, h1, h2, h3, h4, by rw [h5, List.length_set], fun k hk => by rw [h6 k hk, List.getElem?_set_ne (Ne.symm hk)]⟩
      cases f with
      | nx ρ => exact z _ h
      | rt d => exact z _ h
      | bk ρ => exact h
      | ct ρ => exact h
    simp [ix_ref e, t0, t1, t2, t3, hcut, hone, hadd, hcell, get_ref e, set_ref e, pow_1018, gSb, eV, eC, ret]
    by_cases hc18 : 1000000000000000000 ≤ cell
    · simp [hc18, set_ref e1, ix_ref e1, set_ref e2, ix_ref e2, t1, t2, m1, m2, d1]
      exact fin _ _ _ _ (by omega)
    · simp [hc18, set_ref e1, ix_ref e1, t1, t2, m1, m2, d1]
      exact fin _ _ _ _ (by omega)
  · simp [hw0]
    exact take2_ok w s p cs (by unfold bagL; exact e) hw (by omega) hs hs2 hc h0 h1 _ _ _ _ _
end
end Nt

namespace Nt
open PySem PySem.Spec L2
open PyProof.Rows hiding St

/-! ### a value is alike itself -/
mutual
def alk : D → Bool
  | .non => true
  | .bl _ => true
  | .int _ => true
  | .str x => PyData.strOk x
  | .tup xs => alks xs
  | .lst xs => alks xs
  | _ => false
def alks : List D → Bool
  | [] => true
  | d :: ds => alk d && alks ds
end
mutual
def nd : D → Nat
  | .tup xs => nds xs + 1
  | .lst xs => nds xs + 1
  | _ => 1
def nds : List D → Nat
  | [] => 0
  | d :: ds => nd d + nds ds
end
theorem nd_pos : ∀ d : D, 1 ≤ nd d := by
  intro d
  cases d <;> simp [nd]
theorem nds_len : ∀ ds : List D, ds.length ≤ nds ds
  | [] => Nat.zero_le _
  | d :: ds => by
    have := nds_len ds
    have := nd_pos d
    unfold nds
    rw [List.length_cons]
    omega
theorem nds_app : ∀ a b : List D, nds (a ++ b) = nds a + nds b
  | [], b => by simp [nds]
  | d :: a, b => by
    rw [List.cons_append]
    show nd d + nds (a ++ b) = nd d + nds a + nds b
    rw [nds_app a b]
    omega
theorem alks_app : ∀ a b : List D, alks (a ++ b) = (alks a && alks b)
  | [], b => by simp [alks]
  | d :: a, b => by
    rw [List.cons_append]
    show (alk d && alks (a ++ b)) = (alk d && alks a && alks b)
    rw [alks_app a b, Bool.and_assoc]
theorem alks_map {α : Type} {f : α → D} : ∀ {xs : List α}, (∀ x ∈ xs, alk (f x) = true) → alks (xs.map f) = true
  | [], _ => rfl
  | x :: xs, h => by
    rw [List.map_cons]
    unfold alks
    rw [h x (List.mem_cons_self ..), alks_map fun y hy => h y (List.mem_cons_of_mem _ hy)]
    rfl
theorem nds_map {α : Type} {f : α → D} {n : Nat} : ∀ {xs : List α}, (∀ x ∈ xs, nd (f x) ≤ n) → nds (xs.map f) ≤ n * xs.length
  | [], _ => Nat.zero_le _
  | x :: xs, h => by
    rw [List.map_cons, List.length_cons]
    unfold nds
    have := h x (List.mem_cons_self ..)
    have := nds_map (xs := xs) fun y hy => h y (List.mem_cons_of_mem _ hy)
    rw [Nat.mul_succ]
    omega
section
variable {S : Sto} {q : D → Sto → Prop} {qf : Fl → Sto → Prop}
theorem eqP_bl {f : Bool → Bool} {a b : Bool} : eqP f S (.bl a) (.bl b) = some (.bl (f (a == b))) := by
  cases a <;> cases b <;> rfl
theorem eqP_self {f : Bool → Bool} {d : D} (h : alk d = true) (ht : ∀ xs, d ≠ .tup xs) (hl : ∀ xs, d ≠ .lst xs) : eqP f S d d = some (.bl (f true)) := by
  cases d with
  | non => rw [eqP_pln rfl rfl (Nat.zero_le _) (Nat.zero_le _)]; simp
  | bl b => rw [eqP_bl]; simp
  | int i => rw [eqP_int]; simp
  | str x => rw [eqP_str h h]; simp
  | tup xs => exact absurd rfl (ht xs)
  | lst xs => exact absurd rfl (hl xs)
  | _ => simp [alk] at h
theorem ty_alk {d : D} (h : alk d = true) : ∃ t, tyD S d = some t := by
  cases d <;> first | exact ⟨_, rfl⟩ | simp [alk] at h
def pr2 (d : D) : D := .tup [d, d]
theorem zip_self : ∀ xs : List D, List.zipWith (fun x y => D.tup [x, y]) xs xs = xs.map pr2
  | [] => rfl
  | x :: xs => by rw [List.zipWith_cons_cons, zip_self xs]; rfl
theorem wp_zpL {m : Nv → M (List D)} {ρ : Nv} {ql : List D → Sto → Prop} {d : D} {xs : List D} (h : Wp (m ρ) S = fun q => q [d, d] S) (e : seqD S d = some xs) : Wp (zpL m ρ) S ql = ql (xs.map pr2) S := by
  unfold zpL
  rw [wp_bnd, h]
  show Wp (ask fun S => (seqD S d).bind fun xs => (seqD S d).bind fun ys => if xs.length = ys.length then some (List.zipWith (fun x y => .tup [x, y]) xs ys) else none) S ql = _
  rw [wp_ask, e, Option.bind_some, Option.bind_some, if_pos rfl, So_some, zip_self]
theorem nds_cons (d : D) (ds : List D) : nds (d :: ds) = nd d + nds ds := rfl
def AI (S : Sto) (d : D) (k : Nat) (ρ : Nv) (S' : Sto) : Prop := ∃ (ds : List D) (at_ : Nat) (a4 a5 : Option D), ρ = [some d, some d, some (.ref S.length), some (.int at_), a4, a5] ∧ S' = S ++ [O.lst (ds.map pr2)] ∧ at_ ≤ ds.length ∧ alks (ds.drop at_) = true ∧ k = nds (ds.drop at_) ∧ at_ + nds (ds.drop at_) = nd d
noncomputable def m_alike : List D → M D := fnB 6 2 b_alike
theorem alike_ok {d : D} (h : alk d = true) (hn : nd d ≤ 1000000) : Wp (m_alike [d, d]) S fun r S' => r = .bl true ∧ ∃ o, S' = S ++ [o] := by
  unfold m_alike b_alike
  have h1 : (1 : Nat) ≤ sizeLine := by decide
  have h2 : (2 : Nat) ≤ sizeLine := by decide
  simp [h1, h2]
  refine ws_while (AI S d) ?_ (nd d) _ _ ⟨[d], 0, none, none, rfl, rfl, by simp, by simp [alks, h], by simp [nds], by simp [nds]⟩
  rintro k ρ S' ⟨ds, i, a4, a5, rfl, rfl, hle, hal, rfl, hN⟩
  have hF : (S ++ [O.lst (ds.map pr2)])[S.length]? = some (O.lst (ds.map pr2)) := by simp
  generalize hS : S ++ [O.lst (ds.map pr2)] = S1 at hF
  simp [len_ref hF]
  by_cases hi : i < ds.length
  · have hd : ds.drop i = ds[i] :: ds.drop (i + 1) := List.drop_eq_getElem_cons hi
    have hx : (ds.map pr2)[i]? = some (pr2 ds[i]) := by rw [List.getElem?_map, List.getElem?_eq_getElem hi]; rfl
    rw [hd] at hal hN ⊢
    generalize ds[i] = x at hx hal hN
    unfold alks at hal
    rw [Bool.and_eq_true] at hal
    obtain ⟨hx1, hal⟩ := hal
    rw [nds_cons] at hN ⊢
    have hnx := nd_pos x
    have hat : atI (ds.map pr2) (i : Int) = some (pr2 x) := atI_nat hx
    rw [if_pos (by omega)]
    obtain ⟨t, ht⟩ := ty_alk (S := S1) hx1
    have more : ∀ xs : List D, alks xs = true → nd x = nds xs + 1 → ∃ j, j < nd x + nds (ds.drop (i + 1)) ∧ AI S d j [some d, some d, some (.ref S.length), some (.int ((i : Int) + 1)), some x, some x] (S1.set S.length (.lst (ds.map pr2 ++ xs.map pr2))) := by
      intro xs hxs hnd
      have hdr : (ds ++ xs).drop (i + 1) = ds.drop (i + 1) ++ xs := by rw [List.drop_append_of_le_length (by omega)]
      refine ⟨nds (ds.drop (i + 1) ++ xs), by rw [nds_app]; omega, ds ++ xs, i + 1, some x, some x, by simp, ?_, by simp; omega, by rw [hdr, alks_app, hal, hxs]; rfl, by rw [hdr], by rw [hdr, nds_app]; omega⟩
      rw [← hS]
      simp
    have self : S1.set S.length (.lst (ds.map pr2)) = S1 := by rw [← hS]; simp
    have hdl := nds_len ds
    have hdn : ds.length ≤ nd d := by
      have := nds_len (ds.drop (i + 1))
      rw [List.length_drop] at this
      omega
    have ext : ∀ xs : List D, alks xs = true → nd x = nds xs + 1 → seqD S1 x = some xs → Wp (zpL (aCons (eV 4) (aCons (eV 5) aNil)) [some d, some d, some (.ref S.length), some (.int ((i : Int) + 1)), some x, some x]) S1 fun ds_1 S2 =>
        Wp (mtM extendF (.ref S.length) [.lst ds_1]) S2 fun x_2 S2 => ∃ j, j < nd x + nds (ds.drop (i + 1)) ∧ AI S d j [some d, some d, some (.ref S.length), some (.int ((i : Int) + 1)), some x, some x] S2 := by
      intro xs hxs hnd hsq
      rw [wp_zpL (d := x) (xs := xs) (by funext q; simp) hsq]
      rw [wp_mtM hF]
      have he : extendF S1 (ds.map pr2) [.lst (xs.map pr2)] = some (.non, ds.map pr2 ++ xs.map pr2) := by
        have := nds_len xs
        unfold extendF
        dsimp only
        rw [lstD_lst, Option.bind_some, if_pos (by rw [sizeLine_eq]; simp; omega)]
      rw [he, So_some]
      exact more xs hxs hnd
    simp [ix_ref hF, hat, pr2, gTp, gCs, gN, gNl, ht, eqP_bl]
    cases x with
    | tup xs =>
      cases ht
      simp [isTy, eqP_int, lst_ref hF]
      exact ext xs hx1 rfl rfl
    | lst xs =>
      cases ht
      simp [isTy, eqP_int, lst_ref hF]
      exact ext xs hx1 rfl rfl
    | scr xs => simp [alk] at hx1
    | dct xs => simp [alk] at hx1
    | ref n => simp [alk] at hx1
    | non => 
      cases ht
      rw [show (@neD) = @eqP not from rfl, eqP_self hx1 (by simp) (by simp)]
      simpa [isTy, self] using more [] rfl rfl
    | bl b => 
      cases ht
      rw [show (@neD) = @eqP not from rfl, eqP_self hx1 (by simp) (by simp)]
      simpa [isTy, self] using more [] rfl rfl
    | int b => 
      cases ht
      rw [show (@neD) = @eqP not from rfl, eqP_self hx1 (by simp) (by simp)]
      simpa [isTy, self] using more [] rfl rfl
    | str b => 
      cases ht
      rw [show (@neD) = @eqP not from rfl, eqP_self hx1 (by simp) (by simp)]
      simpa [isTy, self] using more [] rfl rfl
  · rw [if_neg hi, ← hS]
    exact ⟨_, rfl⟩
end
end Nt

namespace Nt
open PySem PySem.Spec L2
open PyProof.Rows hiding St
section
variable {α β : Type} {S S' S2 : Sto} {ρ : Nv} {b : Nat} {q : α → Sto → Prop} {qd : D → Sto → Prop} {qf : Fl → Sto → Prop} {ql : List D → Sto → Prop}
theorem log_small {m : Int} (h0 : 0 < m) (h : m ≤ 1000000000) : m.natAbs.log2 < 9000 := by
  have h1 : m.natAbs < 2 ^ 30 := by omega
  have h2 : m.natAbs.log2 < 30 := (Nat.log2_lt (by omega)).mpr h1
  omega
/-- a number is drawn -/
theorem take_dr (h : Bag S b) {m : Int} (h0 : 0 < m) (h1 : m ≤ 1000000000) : Wp (m_take [.ref b, .int m]) S fun d S' => ∃ v : Nat, d = .int v ∧ (v : Int) < m ∧ Dr S S' b ∧ S'.length = S.length := by
  refine Wp.mono (take_ok h h0 (log_small h0 h1)) ?_
  rintro d S' ⟨v, rfl, h2, h3, h4, h5, h6⟩
  obtain ⟨n, rfl⟩ : ∃ n : Nat, v = n := ⟨v.toNat, by omega⟩
  exact ⟨n, rfl, h3, ⟨h4, by omega, fun k _ hk => h6 k hk⟩, h5⟩
theorem some_dr (h : Bag S b) {xs : List D} (hne : xs ≠ []) (hl : xs.length ≤ 1000000) : Wp (m_some [.ref b, .lst xs]) S fun d S' => d ∈ xs ∧ Dr S S' b ∧ S'.length = S.length := by
  unfold m_some b_some
  have hp : 0 < xs.length := List.length_pos_iff.mpr hne
  simp
  refine Wp.mono (take_dr h (m := (xs.length : Nat)) (by omega) (by omega)) ?_
  rintro d S' ⟨v, rfl, h1, h2, h3⟩
  have hv : v < xs.length := by omega
  simp [atI_nat (List.getElem?_eq_getElem hv)]
  exact ⟨h2, h3⟩
theorem some_drT (h : Bag S b) {xs : List D} (hne : xs ≠ []) (hl : xs.length ≤ 1000000) : Wp (m_some [.ref b, .tup xs]) S fun d S' => d ∈ xs ∧ Dr S S' b ∧ S'.length = S.length := by
  unfold m_some b_some
  have hp : 0 < xs.length := List.length_pos_iff.mpr hne
  simp
  refine Wp.mono (take_dr h (m := (xs.length : Nat)) (by omega) (by omega)) ?_
  rintro d S' ⟨v, rfl, h1, h2, h3⟩
  have hv : v < xs.length := by omega
  simp [atI_nat (List.getElem?_eq_getElem hv)]
  exact ⟨h2, h3⟩
mutual
theorem toP0_pln : ∀ {d : D}, pln d = true → toP0 d = some (pd d)
  | .non, _ => rfl
  | .int _, _ => rfl
  | .str _, _ => rfl
  | .tup xs, h => by
    unfold toP0
    rw [toP0s_pln (xs := xs) h]
    rfl
  | .lst xs, h => by
    unfold toP0
    rw [toP0s_pln (xs := xs) h]
    rfl
  | .bl _, h => by simp [pln] at h
  | .dct _, h => by simp [pln] at h
  | .scr _, h => by simp [pln] at h
  | .ref _, h => by simp [pln] at h
theorem toP0s_pln : ∀ {xs : List D}, plns xs = true → toP0s xs = some (pds xs)
  | [], _ => rfl
  | d :: ds, h => by
    unfold plns at h
    rw [Bool.and_eq_true] at h
    unfold toP0s
    rw [toP0_pln h.1, toP0s_pln h.2]
    rfl
end
/-- a list of the store, is it empty? -/
theorem ref_nil {f : Bool → Bool} {n : Nat} {xs : List D} (h : S[n]? = some (.lst xs)) (hp : plns xs = true) (hd : deps xs ≤ 60) : eqP f S (.ref n) (.lst []) = some (.bl (f (decide (xs = [])))) := by
  have e1 : toP S (.ref n) = some (pd (.lst xs)) := by
    unfold toP
    rw [h]
    show (toP0s xs).map PyData.list = _
    rw [toP0s_pln hp]
    rfl
  have e2 : eqP f S (.ref n) (.lst []) = eqP f S (.lst xs) (.lst []) := by
    unfold eqP
    rw [e1, toP_pln (d := .lst xs) (by unfold pln; exact hp)]
  rw [e2, eqP_pln (by unfold pln; exact hp) rfl (by unfold dep; omega) (by decide)]
  by_cases h : xs = [] <;> simp [h]
theorem erase_map (f : α → β) : ∀ (xs : List α) (i : Nat), (xs.map f).eraseIdx i = (xs.eraseIdx i).map f
  | [], _ => rfl
  | _ :: _, 0 => rfl
  | x :: xs, i + 1 => by
    show f x :: (xs.map f).eraseIdx i = f x :: (xs.eraseIdx i).map f
    rw [erase_map f xs i]
theorem erase_perm : ∀ (xs : List α) (i : Nat) (h : i < xs.length), (xs.eraseIdx i ++ [xs[i]]).Perm xs
  | x :: xs, 0, _ => List.perm_append_comm (l₁ := xs) (l₂ := [x])
  | x :: xs, i + 1, h => List.Perm.cons x (erase_perm xs i (by simpa using h))
theorem wp_rgL {ma mb : Nv → M D} : Wp (rgL ma mb ρ) S ql = Wp (ma ρ) S fun x S1 => Wp (mb ρ) S1 fun y S2 => In x fun a => In y fun b => if 0 ≤ a ∧ a ≤ 16777216 ∧ 0 ≤ b ∧ b ≤ 16777216 then ql ((List.range (b - a).toNat).map fun i => .int (a + (i : Nat))) S2 else False := by
  unfold rgL
  simp only [wp_bnd, wp_ask]
  congr 1; funext x S1; congr 1; funext y S2
  cases x with
  | int a =>
    cases y with
    | int b => simp only [In_int, So_ite, So_some, So_none]
    | _ => rfl
  | _ => cases y <;> rfl
noncomputable def m_mixed : List D → M D := fnB 4 2 b_mixed
noncomputable def m_bag : List D → M D := fnB 2 1 b_bag
def MI (S : Sto) (b : Nat) (enc : α → D) (xs : List α) (k : Nat) (ρ : Nv) (S' : Sto) : Prop := ∃ (left found : List α) (a : Option D), ρ = [some (.ref b), a, some (.ref S.length), some (.ref (S.length + 1))] ∧ S'[S.length]? = some (.lst (left.map enc)) ∧ S'[S.length + 1]? = some (.lst (found.map enc)) ∧ (left ++ found).Perm xs ∧ k = left.length ∧ Dr S S' b
theorem mixed_dr (h : Bag S b) (enc : α → D) (xs : List α) (hp : ∀ x ∈ xs, pln (enc x) = true) (hd : ∀ x ∈ xs, dep (enc x) ≤ 60) (hl : xs.length ≤ 1000000) {d0 : D} (hs : seqD S d0 = some (xs.map enc)) :
    Wp (m_mixed [.ref b, d0]) S fun d S' => d = .ref (S.length + 1) ∧ ∃ ys : List α, ys.Perm xs ∧ S'[S.length + 1]? = some (.lst (ys.map enc)) ∧ Dr S S' b := by
  have hb := h.lt
  have hsq : listD S [d0] = some (xs.map enc) := hs
  unfold m_mixed b_mixed
  simp [hsq]
  refine ws_while (MI S b enc xs) ?_ xs.length _ _ ⟨xs, [], _, rfl, by simp, by simp, by simp, rfl, (Up.snoc (o := [O.lst (xs.map enc), O.lst []])).dr h⟩
  rintro k ρ S' ⟨left, found, a, rfl, hL, hF, hperm, rfl, hD⟩
  have hin : ∀ x ∈ left, x ∈ xs := fun x hx => hperm.mem_iff.mp (List.mem_append_left _ hx)
  have hlen : left.length + found.length = xs.length := by have := hperm.length_eq; simpa using this
  have hn : eqP not S' (.ref S.length) (.lst []) = some (.bl (!decide (left.map enc = []))) := ref_nil hL (plns_map fun x hx => hp x (hin x hx)) (deps_map fun x hx => hd x (hin x hx))
  simp [hn]
  cases left with
  | nil =>
    simp
    exact ⟨found, by simpa using hperm, hF, hD⟩
  | cons x left =>
    simp [lst_ref hF, lst_ref hL, len_ref hL]
    refine Wp.mono (take_dr hD.bag (m := ((left.length : Nat) : Int) + 1) (by omega) (by simp at hlen; omega)) ?_
    rintro d S2 ⟨v, rfl, h1, h2, h3⟩
    have hlS := (List.getElem?_eq_some_iff.mp hL).1
    have hfS := (List.getElem?_eq_some_iff.mp hF).1
    have hL2 : S2[S.length]? = some (.lst ((x :: left).map enc)) := by rw [h2.same _ hlS (by omega)]; exact hL
    have hF2 : S2[S.length + 1]? = some (.lst (found.map enc)) := by rw [h2.same _ hfS (by omega)]; exact hF
    have hv : v < (x :: left).length := by simp; omega
    have hpop : popF S2 ((x :: left).map enc) [.int (v : Nat)] = some (enc (x :: left)[v], ((x :: left).eraseIdx v).map enc) := by
      unfold popF
      dsimp only
      rw [if_pos ⟨by omega, by simp at hlen; omega⟩, seqIndex_of (by omega) (by rw [List.length_map]; omega), Option.bind_some, Int.toNat_natCast, List.getElem?_map, List.getElem?_eq_getElem hv, erase_map]
      rfl
    rw [wp_mtM hL2, hpop, So_some]
    have hF3 : (S2.set S.length (.lst (((x :: left).eraseIdx v).map enc)))[S.length + 1]? = some (.lst (found.map enc)) := by rw [List.getElem?_set_ne (by omega)]; exact hF2
    have happ : appendF (S2.set S.length (.lst (((x :: left).eraseIdx v).map enc))) (found.map enc) [enc (x :: left)[v]] = some (.non, (found ++ [(x :: left)[v]]).map enc) := by
      unfold appendF
      dsimp only
      rw [if_pos (by rw [sizeLine_eq, List.length_map]; simp at hlen; omega), List.map_append]
      rfl
    rw [wp_mtM hF3, happ, So_some]
    have hl2 : S.length + 1 < S2.length := by rw [h3]; exact hfS
    refine ⟨left.length, by omega, (x :: left).eraseIdx v, found ++ [(x :: left)[v]], a, rfl, ?_, put_get (by simpa using hl2), ?_, ?_, ?_⟩
    · rw [List.getElem?_set_ne (by omega), put_get (by omega)]
    · refine List.Perm.trans ?_ hperm
      refine List.Perm.trans (List.Perm.append_left _ List.perm_append_comm) ?_
      rw [← List.append_assoc]
      exact List.Perm.append_right _ (erase_perm (x :: left) v hv)
    · rw [List.length_eraseIdx_of_lt hv]
      simp
    · refine ⟨?_, by simp; have := hD.len; omega, fun k hk hkb => ?_⟩
      · obtain ⟨w, s, p, cs, e, r⟩ := h2.bag
        exact ⟨w, s, p, cs, by rw [List.getElem?_set_ne (by omega), List.getElem?_set_ne (by omega)]; exact e, r⟩
      · rw [List.getElem?_set_ne (by omega), List.getElem?_set_ne (by omega), h2.same k (by have := hD.len; omega) hkb, hD.same k hk hkb]
theorem bag_ok {ns : List Int} (hn : ns.length ≤ 63) : Wp (m_bag [.scr ns]) [] fun d S' => d = .ref 0 ∧ Bag S' 0 := by
  unfold m_bag b_bag
  have h4 : (4 : Nat) ≤ sizeLine := by decide
  have hs : slD [] (.scr ns) none (some 63) = some (.lst (ns.map .int)) := by
    show (rdlD [] (.scr ns)).map (fun xs => D.lst (Nt.cutD xs none (some 63))) = _
    have e : rdlD [] (.scr ns) = some (ns.map .int) := rfl
    rw [e, Option.map_some]
    have := cut_toA (xs := ns.map D.int) (i := 63)
    rw [show ((63 : Nat) : Int) = 63 from rfl] at this
    rw [this, List.take_of_length_le (by simpa using hn)]
  simp [hs, wipeD, h4]
  rw [wp_lcE D.int (fun _ => true) (fun x => .int (if x < 0 then -x else x)) ns trivial fun x _ => by simp [lN, setAll, absD]]
  simp [h4]
  refine ⟨0, 1234567891, 0, ns.map (fun x => if x < 0 then -x else x), ?_, by omega, by omega, by omega, by simpa using hn⟩
  simp [bagL, Function.comp_def]
end
end Nt

/-! what a mirror raises -/
namespace Nt
open PySem PySem.Spec L2
open PyProof.Rows hiding St
@[irreducible] def Xp {α : Type} (m : M α) (S : Sto) (c : Str) (fs : List (Str × D)) (q : Sto → Prop) : Prop := ∃ S', m S = .ex c fs S' ∧ q S'
@[irreducible] def Xs (m : SM) (ρ : Nv) (S : Sto) (c : Str) (fs : List (Str × D)) (q : Nv → Sto → Prop) : Prop := ∃ ρ' S', m ρ S = .ex c fs ρ' S' ∧ q ρ' S'
section
variable {α β : Type} {S : Sto} {ρ : Nv} {c : Str} {fs : List (Str × D)} {q : Sto → Prop} {qs : Nv → Sto → Prop} {qf : Fl → Sto → Prop}
theorem Xp.iff {m : M α} : Xp m S c fs q ↔ ∃ S', m S = .ex c fs S' ∧ q S' := by unfold Xp; exact Iff.rfl
theorem Xs.iff {m : SM} : Xs m ρ S c fs qs ↔ ∃ ρ' S', m ρ S = .ex c fs ρ' S' ∧ qs ρ' S' := by unfold Xs; exact Iff.rfl
theorem Xp.mono {m : M α} {q' : Sto → Prop} (h : Xp m S c fs q) (k : ∀ S', q S' → q' S') : Xp m S c fs q' := by
  obtain ⟨S', e, h⟩ := Xp.iff.mp h
  exact Xp.iff.mpr ⟨S', e, k _ h⟩
theorem Xs.mono {m : SM} {q' : Nv → Sto → Prop} (h : Xs m ρ S c fs qs) (k : ∀ ρ' S', qs ρ' S' → q' ρ' S') : Xs m ρ S c fs q' := by
  obtain ⟨ρ', S', e, h⟩ := Xs.iff.mp h
  exact Xs.iff.mpr ⟨ρ', S', e, k _ _ h⟩
/-- raised at once -/
theorem xp_bnd {m : M α} {f : α → M β} (h : Xp m S c fs q) : Xp (bnd m f) S c fs q := by
  obtain ⟨S', e, h⟩ := Xp.iff.mp h
  refine Xp.iff.mpr ⟨S', ?_, h⟩
  unfold bnd
  rw [e]
/-- raised behind -/
theorem xp_bnd2 {m : M α} {f : α → M β} (h : Wp m S fun a S1 => Xp (f a) S1 c fs q) : Xp (bnd m f) S c fs q := by
  obtain ⟨a, S1, e, h⟩ := Wp.iff.mp h
  obtain ⟨S', e2, h⟩ := Xp.iff.mp h
  refine Xp.iff.mpr ⟨S', ?_, h⟩
  unfold bnd
  rw [e]
  exact e2
theorem xs_sB {m : Nv → M α} {k : α → SM} (h : Xp (m ρ) S c fs (qs ρ)) : Xs (sB m k) ρ S c fs qs := by
  obtain ⟨S', e, h⟩ := Xp.iff.mp h
  refine Xs.iff.mpr ⟨ρ, S', ?_, h⟩
  unfold sB
  rw [e]
theorem xs_sB2 {m : Nv → M α} {k : α → SM} (h : Wp (m ρ) S fun a S1 => Xs (k a) ρ S1 c fs qs) : Xs (sB m k) ρ S c fs qs := by
  obtain ⟨a, S1, e, h⟩ := Wp.iff.mp h
  obtain ⟨ρ', S', e2, h⟩ := Xs.iff.mp h
  refine Xs.iff.mpr ⟨ρ', S', ?_, h⟩
  unfold sB
  rw [e]
  exact e2
theorem xs_sSq {m m' : SM} (h : Xs m ρ S c fs qs) : Xs (sSq m m') ρ S c fs qs := by
  obtain ⟨ρ', S', e, h⟩ := Xs.iff.mp h
  refine Xs.iff.mpr ⟨ρ', S', ?_, h⟩
  unfold sSq
  rw [e]
theorem xs_sSq2 {m m' : SM} (h : Ws m ρ S fun f S1 => ∃ ρ1, f = .nx ρ1 ∧ Xs m' ρ1 S1 c fs qs) : Xs (sSq m m') ρ S c fs qs := by
  unfold Ws at h
  cases e : m ρ S with
  | ok f S1 =>
    rw [e] at h
    obtain ⟨ρ1, rfl, h⟩ := h
    obtain ⟨ρ', S', e2, h⟩ := Xs.iff.mp h
    refine Xs.iff.mpr ⟨ρ', S', ?_, h⟩
    unfold sSq
    rw [e]
    exact e2
  | ex c' fs' ρ' S' => rw [e] at h; exact h.elim
  | bad => rw [e] at h; exact h.elim
theorem xs_sIf {t : Nv → M Bool} {x y : SM} (h : Wp (t ρ) S fun b S1 => if b = true then Xs x ρ S1 c fs qs else Xs y ρ S1 c fs qs) : Xs (sIf t x y) ρ S c fs qs := by
  unfold sIf
  refine xs_sB2 (Wp.mono h fun b S1 h => ?_)
  cases b <;> exact h
theorem xs_sRs {x : Str} {as : List Str} {mr : Nv → M (List D)} (h : Wp (mr ρ) S fun ds S1 => ds.length = as.length ∧ fs = flX as ds ∧ qs ρ S1) : Xs (sRs x as mr) ρ S x fs qs := by
  unfold sRs
  refine xs_sB2 (Wp.mono h ?_)
  rintro ds S1 ⟨h1, rfl, h2⟩
  refine Xs.iff.mpr ⟨ρ, S1, ?_, h2⟩
  rw [if_pos h1]
theorem xs_sRt {me : Nv → M D} (h : Xp (me ρ) S c fs (qs ρ)) : Xs (sRt me) ρ S c fs qs := by unfold sRt; exact xs_sB h
theorem xs_sSet {i : Nat} {me : Nv → M D} (h : Xp (me ρ) S c fs (qs ρ)) : Xs (sSet i me) ρ S c fs qs := by unfold sSet; exact xs_sB h
theorem xp_fnB {n np : Nat} {b : SM} {ds : List D} (hl : ds.length = np) (h : Xs b (ds.map some ++ List.replicate (n - ds.length) none) S c fs fun _ S' => q S') : Xp (fnB n np b ds) S c fs q := by
  obtain ⟨ρ', S', e, h⟩ := Xs.iff.mp h
  refine Xp.iff.mpr ⟨S', ?_, h⟩
  unfold fnB
  rw [if_pos hl, e]
theorem xp_eCall {np : Nat} {m : List D → M D} {ma : Nv → M (List D)} (h : Wp (ma ρ) S fun ds S1 => ds.length = np ∧ Xp (m ds) S1 c fs q) : Xp (eCall np m ma ρ) S c fs q := by
  unfold eCall
  refine xp_bnd2 (Wp.mono h ?_)
  rintro ds S1 ⟨h1, h2⟩
  rw [if_pos h1]
  exact h2
theorem xp_aCons {m : Nv → M D} {r : Nv → M (List D)} (h : Xp (m ρ) S c fs q) : Xp (aCons m r ρ) S c fs q := by unfold aCons; exact xp_bnd h
theorem xp_aCons2 {m : Nv → M D} {r : Nv → M (List D)} (h : Wp (m ρ) S fun _ S1 => Xp (r ρ) S1 c fs q) : Xp (aCons m r ρ) S c fs q := by
  unfold aCons
  exact xp_bnd2 (Wp.mono h fun d S1 h => xp_bnd h)
theorem xp_lim {m : Nv → M (List D)} (h : Xp (m ρ) S c fs q) : Xp (lim m ρ) S c fs q := by unfold lim; exact xp_bnd h
theorem xp_eTup {m : Nv → M (List D)} (h : Xp (m ρ) S c fs q) : Xp (eTup m ρ) S c fs q := by unfold eTup; exact xp_bnd (xp_lim h)
/-- a try that catches -/
theorem ws_try_x {mb : SM} {i : Nat} {its : List Sit} {ds : List D} (h : Xs mb ρ S c fs fun ρ' S' => i < ρ'.length ∧ qf (.rt (.tup ds)) S') (hd : sitsD fs its = some ds) : Ws (sTryR mb c i its) ρ S qf := by
  obtain ⟨ρ', S', e, h1, h2⟩ := Xs.iff.mp h
  exact ws_try_ex e h1 hd h2
end
end Nt

set_option maxHeartbeats 2000000
/-! a law run at the claim's own call alone: there no guard stands -/
namespace Nx
open PySem PySem.Spec L2 Nt
open PyProof.Rows hiding St
section
variable {CX : CXT} {P : Program} {w : World} {K : PySem.W.Frag} {mg : Str → Option Value} {k : Nat} {N ps : List Str} {sp : Sp}
/-- what the law's def does at the claim's call -/
def RunC (P : Program) (w : World) (K : PySem.W.Frag) (mg : Str → Option Value) (base : Heap) (CX : CXT) (f : Addr) (fd : FuncData) (ps : List Str) (sp : Sp) : Prop :=
  ∀ (s : Shared) (H : Hp) (us : List Value) (vs : List V) (Q : VK) (E : XK), Env0 P w K mg base callerA [] s H → BindsTo s fd ⟨us, []⟩ (ps.zip us) → Vals vs us → sp vs H Q E →
    codeAny (model P w) callerA (.call (.ref f) ⟨us, []⟩) (CR CX [] P w H s Q E) s
theorem runC {base : Heap} {x qual : Str} {params : Arguments} {body : List Stmt} {scope : Scope} {dvs : List V} {kws : List (Str × V)} {f : Addr} {fd : FuncData} (F : FunD K x qual params body scope dvs kws f fd) (S : FnScope N ps scope) (hr : Room (k + 1) callerA)
    (len : ∀ vs H Q E, sp vs H Q E → vs.length = ps.length)
    (hbody : ∀ (cdv : Value) (s : Shared) (H : Hp) (vs : List V) (Q : VK) (E : XK), Room k (callerA.deeper (envOfC qual scope s.heap.objs.size f cdv)) → (callerA.deeper (envOfC qual scope s.heap.objs.size f cdv)).guards = some [] → sp vs H Q E →
      ∃ t, PSs (cxOf CX P w K mg base N qual scope f cdv callerA [] s H E) body t ∧ t { nx := fun _ H' => Q .non H', rt := Q } (start N vs) H) : RunC P w K mg base CX f fd ps sp := by
  obtain ⟨oc, od, dV, kV, doc, pm, an, cdv, ct, osl, rfl, lk, hcd, _, _⟩ := F.ex
  intro s H us vs Q E e0 hb r hsp
  have KX : K.In s.heap := e0.mod.kin.keeps fun b o e => (e0.bs b o e).1
  refine codeAny_call_function hr.depth (KX _ _ lk) rfl S.co S.gen rfl (PySem.W.codeRec_of KX hcd) (hb _ _ _ _ (wpAny_newFunctionEnv_cells S.kind (fun ⟨n, v⟩ hy => ?_) fun env he s1 x => ?_))
  · rcases S.par n (List.of_mem_zip hy).1 with q | q
    · exact .inl q
    · exact .inr ⟨q, PySem.W.cellsFrom_some _ _ _ (.inl q)⟩
  · subst he
    refine ⟨(e0.mod.nolimit.keeps fun b o e => (e0.bs b o e).1).keeps x.toInCall.keep, codeAny_func ?_⟩
    obtain ⟨t, ht, hq⟩ := hbody cdv s H vs Q E (hr.deeper _) rfl hsp
    have I : Inv (cxOf CX P w K mg base N qual scope f cdv callerA [] s H E) [] (start N vs) H s1 := inv_start S hr.hd e0 (len _ _ _ _ hsp) r x
    refine wpAny_mono (ht.run [] s1 (start N vs) H _ I hq) (fun fl s' hs => ?_) fun e s' hs => hs
    cases fl with
    | ret u => obtain ⟨v, σ', H', J, rv, q⟩ := hs; exact ⟨v, H', J.os, J.bare, J.base, J.hok, rv, q⟩
    | next => obtain ⟨σ', H', J, q⟩ := hs; exact ⟨V.non, H', J.os, J.bare, J.base, J.hok, rfl, q⟩
    | brk => obtain ⟨_, _, _, q⟩ := hs; exact q.elim
    | cont => obtain ⟨_, _, _, q⟩ := hs; exact q.elim
theorem run_okD {base : Heap} {x qual : Str} {params : Arguments} {body : List Stmt} {scope : Scope} {dvs : List V} {kws : List (Str × V)} {f : Addr} {fd : FuncData} {b : SM} (F : FunD K x qual params body scope dvs kws f fd) (Sc : FnScope N ps scope) (hr : Room (k + 1) callerA)
    (hb : ∀ (cdv : Value) (s : Shared) (H : Hp) (E : XK), Cz (cxOf (L2.CX P w) P w K mg base N qual scope f cdv callerA [] s H E) (fun cls d _ H => E cls d H) k → (cxOf (L2.CX P w) P w K mg base N qual scope f cdv callerA [] s H E).A.guards = some [] →
      DSs (cxOf (L2.CX P w) P w K mg base N qual scope f cdv callerA [] s H E) (fun cls d _ H => E cls d H) body b) :
    RunC P w K mg base (L2.CX P w) f fd ps (spD K mg ps.length (fnB N.length ps.length b)) := by
  refine runC F Sc hr (fun vs H Q E h => h.1) fun cdv s H vs Q E hr gd h => ?_
  refine ⟨_, (hb cdv s H E ⟨takes_of rfl rfl rfl rfl, passes_of rfl, rfl, hr⟩ gd).pss, ?_⟩
  obtain ⟨hl, G, ψ, S, ds, R, dvs, F⟩ := h
  refine ⟨G, ψ, S, _, R, evl_start (N := N) dvs, ?_⟩
  unfold fnB at F
  rw [if_pos (dvs.length.trans hl)] at F
  cases e : b (ds.map some ++ List.replicate (N.length - ds.length) none) S with
  | ok f S' =>
    rw [e] at F
    cases f with
    | nx ρ => exact fun G2 ψ2 H2 σ y R2 _ => F _ _ _ y R2 _ .non
    | rt d => exact fun G2 ψ2 H2 v y R2 dv => F _ _ _ y R2 _ dv
    | bk ρ => exact F.elim
    | ct ρ => exact F.elim
  | ex c fs ρ S' => rw [e] at F; exact fun G2 ψ2 H2 σ cls dx y R2 _ q => F _ _ _ cls dx y R2 q
  | bad => rw [e] at F; exact F.elim
/-- from an abstract heap that tracks at most the script -/
theorem start_at {s₁ : Shared} {mb : Str → Option Value} {fa a : Addr} {fd : FuncData} {x : Str} {ob : Obj} {xs : List V} (KX : K.In s₁.heap) (hns : s₁.heap.Ns mainGlobals mg) (hb : s₁.heap.Ns builtinsNs mb) (hbb : ∀ x : Str, x ≠ "__name__" → mb x = bootBuiltins x)
    (hlim : s₁.heap.NoLimit) (hg : s₁.gens = #[]) (ha : s₁.heap.get? a = some ob) (hob : ∀ es ep, ob.data ≠ .dict es ep) (R : ∀ base : Heap, K.In base → base.Ns mainGlobals mg → RunC P w K mg base CX fa fd [x] sp)
    (hbind : ∀ (s : Shared) (u : Value), BindsTo s fd ⟨[u], []⟩ [(x, u)]) (hCX : ∀ H e s', CX [] H s₁ (fun _ _ _ => False) e s' → False) (H : Hp) (hok : HOk P w H s₁.heap)
    (hA : ∀ b, H b ≠ none → b = a ∧ K.lookup a = none ∧ H b = some (.frz ob (.lst xs))) (hsp : sp [.ref a] H (fun v _ => v = .bl true) fun _ _ _ => False) :
    codeAny (model P w) callerA (.call (.ref fa) ⟨[.ref a], []⟩) (fun r s' => r = .ok (.ret (.bool true)) ∧ OldK s₁.heap s'.heap ∧ s'.os = s₁.os ∧ AllBare s'.gens) s₁ := by
  have off : ∀ {b : Addr} {o : Obj}, s₁.heap.get? b = some o → (b = a → ob = o → K.lookup a = none → False) → (hidT s₁.heap H).get? b = some o := fun {b o} e n => hidT_get e (by
    cases q : H b with
    | none => rfl
    | some u =>
      obtain ⟨rfl, h2, _⟩ := hA b (by rw [q]; simp)
      rw [ha] at e
      cases e
      exact (n rfl rfl h2).elim)
  have ns : ∀ {b : Addr} {m : Str → Option Value}, s₁.heap.Ns b m → (hidT s₁.heap H).Ns b m := fun {b m} ⟨o, es, ep, e, d, r⟩ => ⟨o, es, ep, off e fun _ h2 _ => hob es ep (by rw [h2]; exact d), d, r⟩
  have hKb : K.In (hidT s₁.heap H) := fun b o e => off (KX b o e) fun h1 _ h3 => by subst h1; rw [h3] at e; cases e
  obtain ⟨mc, l1, l2⟩ := hlim
  have e0 : Env0 P w K mg (hidT s₁.heap H) callerA [] s₁ H := ⟨rfl, ⟨hKb, ns hns, ⟨mb, ns hb, hbb⟩, ⟨mc, ns l1, l2⟩⟩, fun b o e => of_hidT e, Nat.le_of_eq (hidT_size _ _), trivial, fun b hb => absurd (show b ∈ ([] : List Addr) from hb) (by simp), hok, .of_eq hg⟩
  refine codeAny_mono (R _ hKb (ns hns) s₁ H [.ref a] [.ref a] _ _ e0 (hbind s₁ (.ref a)) (.cons rfl .nil) hsp) fun r s' h => ?_
  match r, h with
  | .error e, h => exact (hCX H e s' h).elim
  | .ok .next, h => exact False.elim h
  | .ok .brk, h => exact False.elim h
  | .ok .cont, h => exact False.elim h
  | .ok (.ret u), ⟨v, H', os, bare, un, hok', r', q⟩ =>
    have q : v = .bl true := q
    subst q
    cases (show u = Value.bool true from r')
    refine ⟨rfl, OldK.of_keep fun b o e => ?_, os, bare⟩
    cases q : H b with
    | none => exact un.keep b o e q (fun z => absurd (show b ∈ ([] : List Addr) from z) (by simp)) (by simp)
    | some u =>
      obtain ⟨rfl, _, z⟩ := hA b (by rw [q]; simp)
      obtain ⟨e1, _⟩ := hok b _ z
      rw [e1] at e
      cases e
      exact (hok' b _ (un.frzs b ob _ z)).1
theorem callC {s₁ : Shared} {mb : Str → Option Value} {fa a : Addr} {fd : FuncData} {x : Str} {vs : List Value} {ns : List Int} (KX : K.In s₁.heap) (hns : s₁.heap.Ns mainGlobals mg) (hb : s₁.heap.Ns builtinsNs mb) (hbb : ∀ x : Str, x ≠ "__name__" → mb x = bootBuiltins x)
    (hlim : s₁.heap.NoLimit) (hg : s₁.gens = #[]) (ha : s₁.heap.get? a = some { cls := .type "list", data := .seq vs.toArray }) (hi : IntsAre vs ns) (hl : ns.length ≤ sizeLine) (R : ∀ base : Heap, K.In base → base.Ns mainGlobals mg → RunC P w K mg base CX fa fd [x] sp)
    (hbind : ∀ (s : Shared) (u : Value), BindsTo s fd ⟨[u], []⟩ [(x, u)]) (hCX : ∀ H e s', CX [] H s₁ (fun _ _ _ => False) e s' → False)
    (hsp : ∀ H : Hp, Only H → SqL K H a (ns.map V.int) → sp [.ref a] H (fun v _ => v = .bl true) fun _ _ _ => False) :
    codeAny (model P w) callerA (.call (.ref fa) ⟨[.ref a], []⟩) (fun r s' => r = .ok (.ret (.bool true)) ∧ OldK s₁.heap s'.heap ∧ s'.os = s₁.os ∧ AllBare s'.gens) s₁ := by
  have rv := vals_ints hi
  have nd : ∀ es ep, ({ cls := .type "list", data := .seq vs.toArray } : Obj).data ≠ .dict es ep := fun es ep h => by
    have h : Data.seq vs.toArray _ = Data.dict es ep := h
    cases h
  cases hk : K.lookup a with
  | some o =>
    have e := KX a o hk
    rw [ha] at e
    cases e
    exact start_at (xs := []) KX hns hb hbb hlim hg ha nd R hbind hCX (fun _ => none) (fun b u z => by have z : (none : Option HO) = some u := z; cases z) (fun b z => absurd rfl z)
      (hsp _ (fun _ => .inl rfl) (.inr ⟨_, vs.toArray, _, hk, rfl, rfl, rfl, by rw [List.size_toArray, hi.length]; exact hl, by simpa using rv⟩))
  | none =>
    have at_ : ∀ b, (if b = a then some (HO.frz { cls := .type "list", data := .seq vs.toArray } (.lst (ns.map V.int))) else none) ≠ none → b = a := fun b h => by
      by_cases q : b = a
      · exact q
      · exact absurd (if_neg q) h
    refine start_at (xs := ns.map V.int) KX hns hb hbb hlim hg ha nd R hbind hCX (fun b => if b = a then some (.frz { cls := .type "list", data := .seq vs.toArray } (.lst (ns.map V.int))) else none) (fun b u z => ?_) (fun b z => ⟨at_ b z, hk, if_pos (at_ b z)⟩)
      (hsp _ (fun b => ?_) (.inl (.inr ⟨_, if_pos rfl⟩)))
    · have q := at_ b (fun c => by have e := z.symm.trans c; cases e)
      subst q
      have z := (if_pos rfl).symm.trans z
      cases z
      exact ⟨ha, by rw [List.length_map]; exact hl, vs, _, rv, ha⟩
    · by_cases q : b = a
      · exact .inr ⟨_, _, if_pos q⟩
      · exact .inl (if_neg q)
end
/-- a law over a head by facts, its def run at the claim's call -/
theorem walk_ofC {l : PySem.W.OpenLaw} {n : Nat} {q : Program} {loose : List Str} {XP : (Str → Option Value) → Heap → Prop} {YP : World → Heap → Prop} {d : DefRec} {CX : World → CXT} {x : Str}
    (hn : l.most = some n) (hn2 : n ≤ sizeLine) (hdf : d.params.defaults = [])
    (F : ∀ (w : World) (mg : Str → Option Value) (fa : Addr) (h : Heap), YP w h → h.Ns mainGlobals mg → mg d.name = some (.ref fa) →
      ∃ (K : PySem.W.Frag) (fd : FuncData) (sp : Sp), K.In h ∧ (∀ (s : Shared) (u : Value), BindsTo s fd ⟨[u], []⟩ [(x, u)]) ∧
        (∀ (H : Hp) (a : Addr) (ns : List Int), ns.length ≤ n → Only H → SqL K H a (ns.map V.int) → sp [.ref a] H (fun v _ => v = .bl true) fun _ _ _ => False) ∧
        ∀ base : Heap, K.In base → base.Ns mainGlobals mg → RunC l.prog w K mg base (CX w) fa fd [x] sp)
    (hCX : ∀ (w : World) (H : Hp) (s : Shared) (e : Value) (s' : Shared), CX w [] H s (fun _ _ _ => False) e s' → False) :
    PySem.W.WalkO q loose XP YP l.row.toRowW d [] (fun f vs => PySem.call f vs) := by
  refine Att.attach_call hn hdf fun w s₀ s₁ mg mb fa o pm cd doc a vs ns G Y ho hd hcd hmg hobj hints hlen hg => ?_
  obtain ⟨K, fd, sp, KX, hb, hsp, hF⟩ := F w mg fa _ Y G.T.g hmg
  exact callC KX G.T.g G.T.b G.T.builtins G.T.nolimit hg hobj hints (Nat.le_trans hlen hn2) hF hb (fun H e s' => hCX w H s₁ e s') fun H hO hS => hsp H a ns hlen hO hS
end Nx

/-! repr of data -/
namespace Nx
open PySem PySem.Spec L2 Nt
open PyProof.Rows hiding St
def dctR : List (D × D) → Option PyData
  | [] => some (.dict [])
  | [(.str k, .int v)] => some (.dict [(.str k, .int v)])
  | _ => none
mutual
def toR : D → Option PyData
  | .non => some .none
  | .bl b => some (.bool b)
  | .int i => some (.int i)
  | .str x => some (.str x)
  | .tup ds => (toRs ds).map .tuple
  | .lst ds => (toRs ds).map .list
  | .dct kvs => dctR kvs
  | _ => none
def toRs : List D → Option (List PyData)
  | [] => some []
  | d :: ds => (toR d).bind fun p => (toRs ds).map fun ps => p :: ps
end
mutual
def noL : PyData → Bool
  | .list _ => false
  | .tuple xs => noLs xs
  | _ => true
def noLs : List PyData → Bool
  | [] => true
  | x :: xs => noL x && noLs xs
end
section
variable {X : Cx} {pins : List (Addr × Obj)} {σ : L2.St} {H : Hp} {s : Shared} {mg : Str → Option Value} {G : Hp} {ψ : List Addr} {S : Sto}
theorem rd_dct (I : Inv X pins σ H s) {a : Addr} {vs : List (Key × V)} (h : H a = some (.dK vs)) : (a == sysModules) = false ∧ ∃ vs', KV vs vs' ∧ ∃ o es ep, s.heap.get? a = some o ∧ o.cls = .type "dict" ∧ o.data = .dict es ep ∧ Pairs (mixKind X.prog X.w) es.toList vs' := by
  obtain ⟨_, h1, vs', h2, o, es, ep, h3, h4, h5, _, h6, _⟩ := (show ObjOk X.prog X.w H s.heap a (.dK vs) from I.hok a _ h)
  exact ⟨h1, vs', h2, o, es, ep, h3, h4.1, h5, h6⟩
mutual
theorem toR_ok (I : Inv X pins σ H s) (R : Rep X.K mg G ψ S H) : ∀ {d : D} {v : V} {u : Value} {p : PyData}, DV X.K G ψ d v → toR d = some p → RelV v u → ∃ as, Reads s.heap u p as ∧ (noL p = true → ∀ a ∈ as, (a == sysModules) = false)
  | _, _, u, _, .non, e, r => by
    cases e
    cases (show u = Value.none from r)
    exact ⟨_, .none, fun _ a h => by cases h⟩
  | _, _, u, _, .bl b, e, r => by
    cases e
    cases (show u = Value.bool b from r)
    exact ⟨_, .bool b, fun _ a h => by cases h⟩
  | _, _, u, _, .int i, e, r => by
    cases e
    obtain ⟨t, rfl⟩ := r
    exact ⟨_, .int i t, fun _ a h => by cases h⟩
  | _, _, u, _, .str x, e, r => by
    cases e
    obtain ⟨t, rfl⟩ := r
    exact ⟨_, .str x t, fun _ a h => by cases h⟩
  | _, _, u, _, .tup (ds := ds) (a := a) h z r, e, ru => by
    unfold toR at e
    cases q : toRs ds with
    | none => rw [q] at e; cases e
    | some ps =>
      rw [q] at e; cases e
      cases (show u = Value.ref a from ru)
      obtain ⟨its, rv, ⟨o, ho, hc, n, hd⟩, _⟩ := I.tuple (Same.seqT R.sub h)
      obtain ⟨as, hr, hn⟩ := toRs_ok I R r q rv
      exact ⟨_, .tuple ho hc hd hr, fun hl => hn (by simpa [noL] using hl)⟩
  | _, _, u, _, .lst (ds := ds) (a := a) h z r, e, ru => by
    unfold toR at e
    cases q : toRs ds with
    | none => rw [q] at e; cases e
    | some ps =>
      rw [q] at e; cases e
      cases (show u = Value.ref a from ru)
      obtain ⟨its, rv, ⟨o, n, ho, hc, _, hd⟩, _⟩ := I.list (SqL.of (R.sub _ _ h))
      obtain ⟨as, hr, hn⟩ := toRs_ok I R r q rv
      exact ⟨_, .list ho hc hd hr, fun hl => by simp [noL] at hl⟩
  | _, _, u, _, .dct (kvs := kvs) (a := a) h z r, e, ru => by
    cases (show u = Value.ref a from ru)
    have e : dctR kvs = some _ := e
    unfold dctR at e
    split at e
    · cases e
      cases r
      obtain ⟨h1, vs', h2, o, es, ep, h3, h4, h5, h6⟩ := rd_dct I (R.sub _ _ h)
      cases h2
      generalize hes : es.toList = l at h6
      cases h6
      refine ⟨_, .dict (as := []) (bs := []) h3 h4 h5 (by rw [hes]; exact .nil) (by rw [hes]; exact .nil), fun _ b hb => ?_⟩
      simp at hb
      rw [hb]; exact h1
    · rename_i k0 v0 _
      cases e
      cases r with
      | cons rk rv rt =>
        rename_i key vv vs1
        cases rt
        obtain ⟨h1, vs', h2, o, es, ep, h3, h4, h5, h6⟩ := rd_dct I (R.sub _ _ h)
        cases h2 with
        | cons hp ht =>
          cases ht
          rename_i q
          obtain ⟨qk, qv⟩ := q
          obtain ⟨hq1, hq2⟩ := hp
          dsimp only at hq1 hq2
          subst hq1
          generalize hes : es.toList = l at h6
          cases h6 with
          | cons hk hv htl =>
            cases htl
            rename_i en
            dsimp only at hv
            have hk2 : keyIs key en.key = true := hk
            generalize hkk : kV key = kk at rk
            cases rk
            cases rv
            obtain ⟨t, rfl⟩ : ∃ t, qv = Value.int v0 t := hq2
            cases key with
            | inl i => cases hkk
            | inr x =>
              have : x = k0 := by injection hkk
              subst this
              rcases keyIs_shape hk2 with ⟨i, t2, e1, _⟩ | ⟨y, t2, e1, e2⟩
              · cases e1
              · cases e1
                refine ⟨_, .dict (as := [] ++ []) (bs := [] ++ []) h3 h4 h5 (by rw [hes]; show ReadsAll _ [en.key] [PyData.str x] _; rw [e2]; exact .cons (.str x t2) .nil) (by rw [hes]; show ReadsAll _ [en.val] [PyData.int v0] _; rw [hv]; exact .cons (.int v0 t) .nil), fun _ b hb => ?_⟩
                simp at hb
                rw [hb]; exact h1
    · cases e
  | _, _, _, _, .scr _ _, e, _ => by unfold toR at e; cases e
  | _, _, _, _, .ref _, e, _ => by unfold toR at e; cases e
theorem toRs_ok (I : Inv X pins σ H s) (R : Rep X.K mg G ψ S H) : ∀ {ds : List D} {vs : List V} {us : List Value} {ps : List PyData}, DVs X.K G ψ ds vs → toRs ds = some ps → Vals vs us → ∃ as, ReadsAll s.heap us ps as ∧ (noLs ps = true → ∀ a ∈ as, (a == sysModules) = false)
  | _, _, _, _, .nil, e, .nil => by
    cases e
    exact ⟨_, .nil, fun _ a h => by cases h⟩
  | _, _, _, _, .cons (d := d) (ds := ds) r t, e, .cons rv tv => by
    unfold toRs at e
    cases q : toR d with
    | none => rw [q] at e; cases e
    | some p =>
      rw [q, Option.bind_some] at e
      cases q2 : toRs ds with
      | none => rw [q2] at e; cases e
      | some ps =>
        rw [q2] at e; cases e
        obtain ⟨as, h1, h2⟩ := toR_ok I R r q rv
        obtain ⟨bs, g1, g2⟩ := toRs_ok I R t q2 tv
        refine ⟨_, .cons h1 g1, fun hn b hb => ?_⟩
        rw [noLs, Bool.and_eq_true] at hn
        rcases List.mem_append.mp hb with hb | hb
        · exact h2 hn.1 b hb
        · exact g2 hn.2 b hb
end
def reprD : FB := fun S ds => match ds with
  | [d] => (toR d).bind fun p => if p.showable = true ∧ p.depth ≤ 60 ∧ (p.hasDict = true → noL p = true) ∧ p.shown.length ≤ sizeLine then some (.str p.shown) else none
  | _ => none
theorem cd_repr (gd : X.A.guards = some []) (hu : X.A.units + 64 < cLine) : CallD X (.builtin "repr") reprD := by
  rintro pins s σ H xs us Q I rv ⟨G, ψ, S, ds, d, R, r, e, k⟩
  unfold reprD at e
  split at e
  · rename_i d0
    obtain ⟨v, rfl, r1⟩ := r.one
    cases q : toR d0 with
    | none => rw [q] at e; cases e
    | some p =>
      rw [q, Option.bind_some] at e
      split at e
      · rename_i hc
        obtain ⟨c1, c2, c3, c4⟩ := hc
        cases e
        obtain ⟨u, rfl, ru⟩ := vals1 rv
        obtain ⟨as, hr, hn⟩ := toR_ok I R r1 q ru
        have fin : ∀ h' u tk, (∀ b o, s.heap.get? b = some o → h'.get? b = some o) → EP X pins σ Q (.str p.shown u) { s with heap := h', toks := tk } := fun h' u tk hk => ⟨.str p.shown, H, I.kept hk, ⟨u, rfl⟩, k _ _ _ Ext.refl R (.str _)⟩
        cases hr with
        | none => exact PySem.P.repr_of_none (fin s.heap _ _ fun _ _ e => e)
        | bool b => exact PySem.P.repr_of_bool (fin s.heap _ _ fun _ _ e => e)
        | int i t => exact PySem.P.repr_of_int (by simpa [PyData.showable] using c1) (fin s.heap _ _ fun _ _ e => e)
        | str x t => exact PySem.P.repr_of_str (fin s.heap _ _ fun _ _ e => e) c4
        | list h1 h2 h3 h4 => exact repr_of_reads' (.list h1 h2 h3 h4) c1 (fun hd => by have := c3 hd; simp [noL] at this) gd (by omega) (fun _ _ e => e) fin c4
        | tuple h1 h2 h3 h4 => exact repr_of_reads' (.tuple h1 h2 h3 h4) c1 (fun hd hm => by have := hn (c3 hd) _ hm; simp at this) gd (by omega) (fun _ _ e => e) fin c4
        | dict h1 h2 h3 h4 h5 => exact repr_of_reads' (.dict h1 h2 h3 h4 h5) c1 (fun hd hm => by have := hn (c3 hd) _ hm; simp at this) gd (by omega) (fun _ _ e => e) fin c4
      · cases e
  · cases e
/-- a statement that is never reached -/
def sBd : SM := fun _ _ => .bad
theorem ds_bad {W : WX} {st : Stmt} : DS X W st sBd := ⟨⟨fun pins s σ H D I h => by
  obtain ⟨_, _, _, _, _, _, F⟩ := h
  exact F.elim⟩⟩
/-- not equal, two texts -/
def neS : F2 := fun S x y => match x, y with | .str a, .str b => some (.bl (!decide (a = b))) | _, _ => none
theorem od_neS : OpD X (compareOp .NotEq) neS := by
  rintro pins s σ H x y v u Q I rx ry ⟨G, ψ, S, d1, d2, d, R, r1, r2, e, k⟩
  unfold neS at e
  split at e
  · rename_i a b
    cases e
    cases r1
    cases r2
    refine op_ne pins s σ H _ _ v u Q I rx ry ⟨rfl, ?_⟩
    have : decide (V.str a = V.str b) = decide (a = b) := by simp
    rw [this]
    exact k _ _ _ Ext.refl R (.bl _)
  · cases e
end
end Nx

/-! a tuple of any items against () or a tuple of one text -/
namespace Nx
open PySem PySem.Spec L2 Nt
open PyProof.Rows hiding St
def eqT : F2 := fun S x y => match x, y with
  | .tup xs, .tup [] => some (.bl xs.isEmpty)
  | .tup [], .tup [.str _] => some (.bl false)
  | .tup (.str a :: xs), .tup [.str b] => some (.bl (a == b && xs.isEmpty))
  | _, _ => none
section
variable {X : Cx}
theorem tup_at {G H : Hp} {ψ : List Addr} {S : Sto} {pins : List (Addr × Obj)} {σ : L2.St} {s : Shared} {xs : List D} {v : V} {u : Value} (I : Inv X pins σ H s) (R : Rep X.K X.mg G ψ S H) (r : DV X.K G ψ (.tup xs) v) (ru : RelV v u) :
    ∃ a its vs, u = .ref a ∧ DVs X.K G ψ xs vs ∧ Vals vs its ∧ s.heap.IsTuple a its.toArray := by
  cases r with
  | tup h z r =>
    obtain ⟨its, rv, ⟨o, ho, hc, n, hd⟩, _⟩ := I.tuple (Same.seqT R.sub h)
    exact ⟨_, its, _, ru, r, rv, o, ho, hc, n, hd⟩
theorem od_eqT (hu : X.A.units + 64 < cLine) : OpD X (compareOp .Eq) eqT := by
  rintro pins s σ H x y v u Q I rx ry ⟨G, ψ, S, d1, d2, d, R, r1, r2, e, k⟩
  unfold eqT at e
  split at e
  · rename_i xs
    cases e
    obtain ⟨a, its, vs, rfl, q1, q2, q3⟩ := tup_at I R r1 rx
    obtain ⟨b, jts, ws, rfl, p1, p2, p3⟩ := tup_at I R r2 ry
    cases p1; cases p2
    refine SeqAt.RcAt.tuples (e := fun _ => true) q3 p3 (by omega) (fun j h1 h2 => by simp at h2) _ _ _ _ ⟨.bl xs.isEmpty, H, I, ?_, k _ _ _ Ext.refl R (.bl _)⟩
    have hl : its.length = xs.length := by rw [← q2.length, q1.length]
    show Value.bool _ = Value.bool _
    congr 1
    simp [hl]
    cases xs <;> simp
  · cases e
    obtain ⟨a, its, vs, rfl, q1, q2, q3⟩ := tup_at I R r1 rx
    obtain ⟨b, jts, ws, rfl, p1, p2, p3⟩ := tup_at I R r2 ry
    cases q1; cases q2
    refine SeqAt.RcAt.tuples (e := fun _ => true) q3 p3 (by omega) (fun j h1 h2 => by simp at h1) _ _ _ _ ⟨.bl false, H, I, ?_, k _ _ _ Ext.refl R (.bl _)⟩
    cases p1 with
    | cons z1 z2 =>
      cases z2
      cases p2 with
      | cons z3 z4 => cases z4; rfl
  · rename_i x0 xs y0
    cases e
    obtain ⟨a, its, vs, rfl, q1, q2, q3⟩ := tup_at I R r1 rx
    obtain ⟨b, jts, ws, rfl, p1, p2, p3⟩ := tup_at I R r2 ry
    cases p1 with
    | cons z1 z2 =>
      cases z2
      cases z1
      cases p2 with
      | cons z3 z4 =>
        cases z4
        obtain ⟨t1, rfl⟩ := z3
        cases q1 with
        | cons w1 w2 =>
          cases w1
          cases q2 with
          | cons w3 w4 =>
            obtain ⟨t2, rfl⟩ := w3
            rename_i vs' its'
            have hl : its'.length = xs.length := by rw [← w4.length, w2.length]
            refine SeqAt.RcAt.tuples (e := fun _ => x0 == y0) q3 p3 (by omega) (fun j h1 h2 => ?_) _ _ _ _ ⟨.bl (x0 == y0 && xs.isEmpty), H, I, ?_, k _ _ _ Ext.refl R (.bl _)⟩
            · have : j = 0 := by simp at h2; omega
              subst this
              exact SeqAt.EqAt.str_str _ _ _ _
            · show Value.bool _ = Value.bool _
              congr 1
              simp [hl]
              cases xs <;> simp
  · cases e
end
end Nx

set_option maxHeartbeats 0
namespace K75
open PySem PySem.Spec L2
open PyProof.Rows hiding St
def top (i : Nat) : Stmt := PySem.Challenge.pw_nosplitpays_k75_records_of_meters.main.body.getD i (.Pass ⟨0, 0, 0, 0⟩)
abbrev s__wall : Stmt := (top 0)
abbrev s_is_integer : Stmt := (top 9)
abbrev s_is_within : Stmt := (top 10)
abbrev s_are_integers : Stmt := (top 11)
abbrev s_are_rising : Stmt := (top 12)
abbrev s_are_zones : Stmt := (top 13)
abbrev s_row_fault : Stmt := (top 16)
abbrev s_checked_passes : Stmt := (top 20)
abbrev s_has_all : Stmt := (top 21)
abbrev s_holds : Stmt := (top 22)
abbrev s_who_holds : Stmt := (top 23)
abbrev s_is_line : Stmt := (top 29)
abbrev s_checked_record : Stmt := (top 30)
abbrev s_Reading___init__ : Stmt := (inClass (top 31) 0)
abbrev s_Reading_begin : Stmt := (inClass (top 31) 1)
abbrev s_Reading_due : Stmt := (inClass (top 31) 2)
abbrev s_Reading_too_small : Stmt := (inClass (top 31) 3)
abbrev s_Reading_word : Stmt := (inClass (top 31) 4)
abbrev s_Reading_lead : Stmt := (inClass (top 31) 5)
abbrev s_reading_ahead : Stmt := (top 32)
abbrev s_left_at : Stmt := (top 33)
abbrev s_money_at : Stmt := (top 34)
abbrev s_word_at : Stmt := (top 35)
abbrev s_Meter___init__ : Stmt := (inClass (top 38) 0)
abbrev s_Meter___eq__ : Stmt := (inClass (top 38) 1)
abbrev s_Meter_whole : Stmt := (inClass (top 38) 2)
abbrev s_Meter_would : Stmt := (inClass (top 38) 3)
abbrev s_Meter_tap : Stmt := (inClass (top 38) 4)
abbrev s_Meter_charged : Stmt := (inClass (top 38) 5)
abbrev s_Meter_left : Stmt := (inClass (top 38) 6)
abbrev s_Meter_rides : Stmt := (inClass (top 38) 7)
abbrev s_Meter_charges : Stmt := (inClass (top 38) 8)
abbrev s_Meter_day_from : Stmt := (inClass (top 38) 9)
abbrev s_Meter_new_day : Stmt := (inClass (top 38) 10)
abbrev s_Meter_days : Stmt := (inClass (top 38) 11)
abbrev s_Meter_copied : Stmt := (inClass (top 38) 12)
abbrev s__law_bag : Stmt := (top 40)
abbrev s__law_take : Stmt := (top 41)
abbrev s__law_some : Stmt := (top 42)
abbrev s__law_mixed : Stmt := (top 43)
abbrev s__law_alike : Stmt := (top 44)
abbrev s__law_is_int : Stmt := (top 45)
abbrev s__law_holds : Stmt := (top 46)
abbrev s__law_zones : Stmt := (top 47)
abbrev s__law_ride : Stmt := (top 48)
abbrev s__law_passes : Stmt := (top 49)
abbrev s__law_are_ints : Stmt := (top 50)
abbrev s__law_rises : Stmt := (top 51)
abbrev s__law_are_zones : Stmt := (top 52)
abbrev s__law_odd : Stmt := (top 53)
abbrev s__law_bent : Stmt := (top 54)
abbrev s__law_is_ride : Stmt := (top 55)
abbrev s__law_record_form : Stmt := (top 56)
abbrev s__law_left : Stmt := (top 57)
abbrev s__law_money : Stmt := (top 58)
abbrev s__law_due : Stmt := (top 59)
abbrev s__law_word : Stmt := (top 60)
abbrev s__law_record : Stmt := (top 61)
abbrev s__law_heard : Stmt := (top 62)
abbrev s__law_is_printed : Stmt := (top 63)
abbrev s_law : Stmt := (top 64)
def d__wall : He.DefD := ⟨("_wall", none), "_wall", "_wall", defArgs s__wall, defBody s__wall, defScope s__wall, [], []⟩
def d_is_integer : He.DefD := ⟨("is_integer", none), "is_integer", "is_integer", defArgs s_is_integer, defBody s_is_integer, defScope s_is_integer, [], []⟩
def d_is_within : He.DefD := ⟨("is_within", none), "is_within", "is_within", defArgs s_is_within, defBody s_is_within, defScope s_is_within, [], []⟩
def d_are_integers : He.DefD := ⟨("are_integers", none), "are_integers", "are_integers", defArgs s_are_integers, defBody s_are_integers, defScope s_are_integers, [], []⟩
def d_are_rising : He.DefD := ⟨("are_rising", none), "are_rising", "are_rising", defArgs s_are_rising, defBody s_are_rising, defScope s_are_rising, [], []⟩
def d_are_zones : He.DefD := ⟨("are_zones", none), "are_zones", "are_zones", defArgs s_are_zones, defBody s_are_zones, defScope s_are_zones, [], []⟩
def d_row_fault : He.DefD := ⟨("row_fault", none), "row_fault", "row_fault", defArgs s_row_fault, defBody s_row_fault, defScope s_row_fault, [], []⟩
def d_checked_passes : He.DefD := ⟨("checked_passes", none), "checked_passes", "checked_passes", defArgs s_checked_passes, defBody s_checked_passes, defScope s_checked_passes, [], []⟩
def d_has_all : He.DefD := ⟨("has_all", none), "has_all", "has_all", defArgs s_has_all, defBody s_has_all, defScope s_has_all, [], []⟩
def d_holds : He.DefD := ⟨("holds", none), "holds", "holds", defArgs s_holds, defBody s_holds, defScope s_holds, [], []⟩
def d_who_holds : He.DefD := ⟨("who_holds", none), "who_holds", "who_holds", defArgs s_who_holds, defBody s_who_holds, defScope s_who_holds, [], []⟩
def d_is_line : He.DefD := ⟨("is_line", none), "is_line", "is_line", defArgs s_is_line, defBody s_is_line, defScope s_is_line, [], []⟩
def d_checked_record : He.DefD := ⟨("checked_record", none), "checked_record", "checked_record", defArgs s_checked_record, defBody s_checked_record, defScope s_checked_record, [], []⟩
def d_Reading___init__ : He.DefD := ⟨("Reading", some "__init__"), "__init__", "Reading.__init__", defArgs s_Reading___init__, defBody s_Reading___init__, defScope s_Reading___init__, [], []⟩
def d_Reading_begin : He.DefD := ⟨("Reading", some "begin"), "begin", "Reading.begin", defArgs s_Reading_begin, defBody s_Reading_begin, defScope s_Reading_begin, [], []⟩
def d_Reading_due : He.DefD := ⟨("Reading", some "due"), "due", "Reading.due", defArgs s_Reading_due, defBody s_Reading_due, defScope s_Reading_due, [], []⟩
def d_Reading_too_small : He.DefD := ⟨("Reading", some "too_small"), "too_small", "Reading.too_small", defArgs s_Reading_too_small, defBody s_Reading_too_small, defScope s_Reading_too_small, [], []⟩
def d_Reading_word : He.DefD := ⟨("Reading", some "word"), "word", "Reading.word", defArgs s_Reading_word, defBody s_Reading_word, defScope s_Reading_word, [], []⟩
def d_Reading_lead : He.DefD := ⟨("Reading", some "lead"), "lead", "Reading.lead", defArgs s_Reading_lead, defBody s_Reading_lead, defScope s_Reading_lead, [], []⟩
def d_reading_ahead : He.DefD := ⟨("reading_ahead", none), "reading_ahead", "reading_ahead", defArgs s_reading_ahead, defBody s_reading_ahead, defScope s_reading_ahead, [], []⟩
def d_left_at : He.DefD := ⟨("left_at", none), "left_at", "left_at", defArgs s_left_at, defBody s_left_at, defScope s_left_at, [], []⟩
def d_money_at : He.DefD := ⟨("money_at", none), "money_at", "money_at", defArgs s_money_at, defBody s_money_at, defScope s_money_at, [], []⟩
def d_word_at : He.DefD := ⟨("word_at", none), "word_at", "word_at", defArgs s_word_at, defBody s_word_at, defScope s_word_at, [], []⟩
def d_Meter___init__ : He.DefD := ⟨("Meter", some "__init__"), "__init__", "Meter.__init__", defArgs s_Meter___init__, defBody s_Meter___init__, defScope s_Meter___init__, [], []⟩
def d_Meter___eq__ : He.DefD := ⟨("Meter", some "__eq__"), "__eq__", "Meter.__eq__", defArgs s_Meter___eq__, defBody s_Meter___eq__, defScope s_Meter___eq__, [], []⟩
def d_Meter_whole : He.DefD := ⟨("Meter", some "whole"), "whole", "Meter.whole", defArgs s_Meter_whole, defBody s_Meter_whole, defScope s_Meter_whole, [], []⟩
def d_Meter_would : He.DefD := ⟨("Meter", some "would"), "would", "Meter.would", defArgs s_Meter_would, defBody s_Meter_would, defScope s_Meter_would, [], []⟩
def d_Meter_tap : He.DefD := ⟨("Meter", some "tap"), "tap", "Meter.tap", defArgs s_Meter_tap, defBody s_Meter_tap, defScope s_Meter_tap, [], []⟩
def d_Meter_charged : He.DefD := ⟨("Meter", some "charged"), "charged", "Meter.charged", defArgs s_Meter_charged, defBody s_Meter_charged, defScope s_Meter_charged, [], []⟩
def d_Meter_left : He.DefD := ⟨("Meter", some "left"), "left", "Meter.left", defArgs s_Meter_left, defBody s_Meter_left, defScope s_Meter_left, [], []⟩
def d_Meter_rides : He.DefD := ⟨("Meter", some "rides"), "rides", "Meter.rides", defArgs s_Meter_rides, defBody s_Meter_rides, defScope s_Meter_rides, [], []⟩
def d_Meter_charges : He.DefD := ⟨("Meter", some "charges"), "charges", "Meter.charges", defArgs s_Meter_charges, defBody s_Meter_charges, defScope s_Meter_charges, [], []⟩
def d_Meter_day_from : He.DefD := ⟨("Meter", some "day_from"), "day_from", "Meter.day_from", defArgs s_Meter_day_from, defBody s_Meter_day_from, defScope s_Meter_day_from, [], []⟩
def d_Meter_new_day : He.DefD := ⟨("Meter", some "new_day"), "new_day", "Meter.new_day", defArgs s_Meter_new_day, defBody s_Meter_new_day, defScope s_Meter_new_day, [], []⟩
def d_Meter_days : He.DefD := ⟨("Meter", some "days"), "days", "Meter.days", defArgs s_Meter_days, defBody s_Meter_days, defScope s_Meter_days, [], []⟩
def d_Meter_copied : He.DefD := ⟨("Meter", some "copied"), "copied", "Meter.copied", defArgs s_Meter_copied, defBody s_Meter_copied, defScope s_Meter_copied, [], []⟩
def d__law_bag : He.DefD := ⟨("_law_bag", none), "_law_bag", "_law_bag", defArgs s__law_bag, defBody s__law_bag, defScope s__law_bag, [], []⟩
def d__law_take : He.DefD := ⟨("_law_take", none), "_law_take", "_law_take", defArgs s__law_take, defBody s__law_take, defScope s__law_take, [], []⟩
def d__law_some : He.DefD := ⟨("_law_some", none), "_law_some", "_law_some", defArgs s__law_some, defBody s__law_some, defScope s__law_some, [], []⟩
def d__law_mixed : He.DefD := ⟨("_law_mixed", none), "_law_mixed", "_law_mixed", defArgs s__law_mixed, defBody s__law_mixed, defScope s__law_mixed, [], []⟩
def d__law_alike : He.DefD := ⟨("_law_alike", none), "_law_alike", "_law_alike", defArgs s__law_alike, defBody s__law_alike, defScope s__law_alike, [], []⟩
def d__law_is_int : He.DefD := ⟨("_law_is_int", none), "_law_is_int", "_law_is_int", defArgs s__law_is_int, defBody s__law_is_int, defScope s__law_is_int, [], []⟩
def d__law_holds : He.DefD := ⟨("_law_holds", none), "_law_holds", "_law_holds", defArgs s__law_holds, defBody s__law_holds, defScope s__law_holds, [], []⟩
def d__law_zones : He.DefD := ⟨("_law_zones", none), "_law_zones", "_law_zones", defArgs s__law_zones, defBody s__law_zones, defScope s__law_zones, [], []⟩
def d__law_ride : He.DefD := ⟨("_law_ride", none), "_law_ride", "_law_ride", defArgs s__law_ride, defBody s__law_ride, defScope s__law_ride, [], []⟩
def d__law_passes : He.DefD := ⟨("_law_passes", none), "_law_passes", "_law_passes", defArgs s__law_passes, defBody s__law_passes, defScope s__law_passes, [], []⟩
def d__law_are_ints : He.DefD := ⟨("_law_are_ints", none), "_law_are_ints", "_law_are_ints", defArgs s__law_are_ints, defBody s__law_are_ints, defScope s__law_are_ints, [], []⟩
def d__law_rises : He.DefD := ⟨("_law_rises", none), "_law_rises", "_law_rises", defArgs s__law_rises, defBody s__law_rises, defScope s__law_rises, [], []⟩
def d__law_are_zones : He.DefD := ⟨("_law_are_zones", none), "_law_are_zones", "_law_are_zones", defArgs s__law_are_zones, defBody s__law_are_zones, defScope s__law_are_zones, [], []⟩
def d__law_odd : He.DefD := ⟨("_law_odd", none), "_law_odd", "_law_odd", defArgs s__law_odd, defBody s__law_odd, defScope s__law_odd, [], []⟩
def d__law_bent : He.DefD := ⟨("_law_bent", none), "_law_bent", "_law_bent", defArgs s__law_bent, defBody s__law_bent, defScope s__law_bent, [], []⟩
def d__law_is_ride : He.DefD := ⟨("_law_is_ride", none), "_law_is_ride", "_law_is_ride", defArgs s__law_is_ride, defBody s__law_is_ride, defScope s__law_is_ride, [], []⟩
def d__law_record_form : He.DefD := ⟨("_law_record_form", none), "_law_record_form", "_law_record_form", defArgs s__law_record_form, defBody s__law_record_form, defScope s__law_record_form, [], []⟩
def d__law_left : He.DefD := ⟨("_law_left", none), "_law_left", "_law_left", defArgs s__law_left, defBody s__law_left, defScope s__law_left, [], []⟩
def d__law_money : He.DefD := ⟨("_law_money", none), "_law_money", "_law_money", defArgs s__law_money, defBody s__law_money, defScope s__law_money, [], []⟩
def d__law_due : He.DefD := ⟨("_law_due", none), "_law_due", "_law_due", defArgs s__law_due, defBody s__law_due, defScope s__law_due, [], []⟩
def d__law_word : He.DefD := ⟨("_law_word", none), "_law_word", "_law_word", defArgs s__law_word, defBody s__law_word, defScope s__law_word, [], []⟩
def d__law_record : He.DefD := ⟨("_law_record", none), "_law_record", "_law_record", defArgs s__law_record, defBody s__law_record, defScope s__law_record, [], []⟩
def d__law_heard : He.DefD := ⟨("_law_heard", none), "_law_heard", "_law_heard", defArgs s__law_heard, defBody s__law_heard, defScope s__law_heard, [], []⟩
def d__law_is_printed : He.DefD := ⟨("_law_is_printed", none), "_law_is_printed", "_law_is_printed", defArgs s__law_is_printed, defBody s__law_is_printed, defScope s__law_is_printed, [], []⟩
def d_law : He.DefD := ⟨("law", none), "law", "law", defArgs s_law, defBody s_law, defScope s_law, [], []⟩
abbrev s_BadLog___init__ : Stmt := (inClass (top 5) 0)
def x_BadLog : Nx.XcD := ⟨"BadLog", ["fault"], defArgs s_BadLog___init__, defBody s_BadLog___init__, defScope s_BadLog___init__⟩
def xs : List Nx.XcD := [x_BadLog]
def file : PySem.Str := "/claim/cut.py"
def fn : List He.DefD := [d__wall, d_is_integer, d_is_within, d_are_integers, d_are_rising, d_are_zones, d_row_fault, d_checked_passes, d_has_all, d_holds, d_who_holds, d_is_line, d_checked_record, d_Reading___init__, d_Reading_begin, d_Reading_due, d_Reading_too_small, d_Reading_word, d_Reading_lead, d_reading_ahead, d_left_at, d_money_at, d_word_at, d_Meter___init__, d_Meter___eq__, d_Meter_whole, d_Meter_would, d_Meter_tap, d_Meter_charged, d_Meter_left, d_Meter_rides, d_Meter_charges, d_Meter_day_from, d_Meter_new_day, d_Meter_days, d_Meter_copied, d__law_bag, d__law_take, d__law_some, d__law_mixed, d__law_alike, d__law_is_int, d__law_holds, d__law_zones, d__law_ride, d__law_passes, d__law_are_ints, d__law_rises, d__law_are_zones, d__law_odd, d__law_bent, d__law_is_ride, d__law_record_form, d__law_left, d__law_money, d__law_due, d__law_word, d__law_record, d__law_heard, d__law_is_printed, d_law]
def fa : List He.Fa := [.glo "_wall", .glo "is_integer", .glo "is_within", .glo "are_integers", .glo "are_rising", .glo "are_zones", .glo "row_fault", .glo "checked_passes", .glo "has_all", .glo "holds", .glo "who_holds", .glo "is_line", .glo "checked_record", .glo "reading_ahead", .glo "left_at", .glo "money_at", .glo "word_at", .glo "_law_bag", .glo "_law_take", .glo "_law_some", .glo "_law_mixed", .glo "_law_alike", .glo "_law_is_int", .glo "_law_holds", .glo "_law_zones", .glo "_law_ride", .glo "_law_passes", .glo "_law_are_ints", .glo "_law_rises", .glo "_law_are_zones", .glo "_law_odd", .glo "_law_bent", .glo "_law_is_ride", .glo "_law_record_form", .glo "_law_left", .glo "_law_money", .glo "_law_due", .glo "_law_word", .glo "_law_record", .glo "_law_heard", .glo "_law_is_printed", .glo "law", .glo "Reading", .cls "Reading", .mkr "Reading", .noat "Reading" "its_caps", .noat "Reading" "its_left", .noat "Reading" "its_money", .meth "Reading" "begin", .meth "Reading" "due", .meth "Reading" "too_small", .meth "Reading" "word", .meth "Reading" "lead", .glo "Meter", .cls "Meter", .mkr "Meter", .noat "Meter" "its_caps", .noat "Meter" "its_left", .noat "Meter" "its_ends", .noat "Meter" "its_rides", .noat "Meter" "its_charges", .meth "Meter" "__eq__", .meth "Meter" "whole", .meth "Meter" "would", .meth "Meter" "tap", .meth "Meter" "charged", .meth "Meter" "left", .meth "Meter" "rides", .meth "Meter" "charges", .meth "Meter" "day_from", .meth "Meter" "new_day", .meth "Meter" "days", .meth "Meter" "copied", .int "MOST_ZONE" 8, .int "MOST_FARE" 1000000, .int "MOST_PASSES" 12, .int "MOST_PRICE" 1000000, .int "MOST_LINES" 200, .str "RIDE" "ride", .str "DAY" "day", .str "COUNT" "count", .int "MOST_TAPS" 2000, .free "ValueError", .free "abs", .free "all", .free "bool", .free "enumerate", .free "int", .free "isinstance", .free "len", .free "list", .free "max", .free "min", .free "range", .free "repr", .free "sorted", .free "str", .free "sum", .free "super", .free "tuple", .free "zip"]
def nm0 : List PySem.Str := ["_wall", "is_integer", "is_within", "are_integers", "are_rising", "are_zones", "row_fault", "checked_passes", "has_all", "holds", "who_holds", "is_line", "checked_record", "reading_ahead", "left_at", "money_at", "word_at", "_law_bag", "_law_take", "_law_some", "_law_mixed", "_law_alike", "_law_is_int", "_law_holds", "_law_zones", "_law_ride", "_law_passes", "_law_are_ints", "_law_rises", "_law_are_zones"]
def nm1 : List PySem.Str := ["_law_odd", "_law_bent", "_law_is_ride", "_law_record_form", "_law_left", "_law_money", "_law_due", "_law_word", "_law_record", "_law_heard", "_law_is_printed", "Reading", "Meter", "FareError", "BadRide", "BadPass", "BadLog", "TooMany", "MOST_ZONE", "MOST_FARE", "MOST_PASSES", "MOST_PRICE", "MOST_LINES", "RIDE", "DAY", "COUNT", "MOST_TAPS"]
def nms : List PySem.Str := nm0 ++ nm1
abbrev R : PySem.W.OpenRow := PySem.W.OpenLaw.row PySem.Challenge.rw_nosplitpays_k75_records_of_meters
abbrev hk : PySem.W.Hook := Nx.hookZ 5 fa fn xs file
def ob (s : PySem.W.SharedT) : Nx.AlZ := Nx.obsZG 5 fa fn xs file (HandSHeadRun.getT s)
theorem ob_eq (s : PySem.W.SharedT) : ob s = hk.obs s.abs := Nx.obsZG_eq (HandSHeadRun.getT_eq s)
theorem run (w : World) : HandSHeadRun.RunEq R (PySem.W.view R.prog [64]) hk ob 6000 nms w := by
  intro os
  kernel_rfl
-- 61 ['ValueError', 'abs', 'all', 'bool', 'enumerate', 'int', 'isinstance', 'len', 'list', 'max', 'min', 'range', 'repr', 'sorted', 'str', 'sum', 'super', 'tuple', 'zip']
end K75

set_option maxHeartbeats 0
namespace K75
open PySem PySem.Spec L2 Nt Nx
open PyProof.Rows hiding St
section
variable {P : Program} {w : World} {K : PySem.W.Frag} {mg : Str → Option Value} {base : Heap}
noncomputable def q_BadLog___init__ : { q : Arguments × List Stmt × Scope // (defArgs s_BadLog___init__, defBody s_BadLog___init__, defScope s_BadLog___init__) = q } := by
  refine ⟨?q, ?h⟩
  case h =>
    conv =>
      lhs
      congr
      · whnf
      · congr
        · whnf
        · whnf
theorem sc_BadLog : NdefX.NScope ["self", "fault", "__class__"] ["self", "fault"] ["__class__"] q_BadLog___init__.val.2.2 := NdefX.nscope_by (by decide +kernel)
theorem okI_BadLog (T : Xc K mg file x_BadLog) (hP : ((P.main.file : Str) == file) = true) (htop : (P.main.scope.names.lookup ("super" : Str)).isSome = false) (hmS : mg "super" = none) : DX P w K mg base file x_BadLog := by
  refine ⟨T, ?_⟩
  obtain ⟨cc, cda, E0, hcd, oc, od, osl, doc, pm, ct, lk0⟩ := T.fn
  obtain ⟨cl, cld, csl, hcell⟩ := E0.cell
  obtain ⟨ccl, cdd, ccs, vs0, tf, hcode, hvs⟩ := E0.code
  obtain ⟨cd, hcls⟩ := E0.cls
  have lk : K.lookup (iA K "BadLog") = some ⟨oc, od, .func (PySem.W.fnX "__init__" "BadLog.__init__" q_BadLog___init__.val.1 q_BadLog___init__.val.2.1 q_BadLog___init__.val.2.2 [("__class__", cc)] .none .none doc pm none (.ref cda) ct), osl⟩ := lk0
  have no : ∀ a ∈ (["fault"] : List Str), PySem.W.findIn K (.ref (He.ga K "BadLog")) a = some none := T.no
  refine ⟨_, fn_ofC (N := ["self", "fault", "__class__"]) lk hcd sc_BadLog hcell (fun vs H Q E h => h.1) fun A outer s s1 H vs Q E hr hsp I => ?_, ?_⟩
  · obtain ⟨hl, e, ws, rfl, he, hq⟩ := hsp
    obtain ⟨x, rfl⟩ : ∃ x, ws = [x] := by
      match ws, hl with
      | [x], _ => exact ⟨x, rfl⟩
    refine PySem.ks_wpAt_execs_cons (PySem.ks_wpAt_Expr_any (PySem.wpAt_mono (sup_call I rfl rfl rfl rfl rfl lk rfl rfl rfl rfl hcode hvs hP htop hmS hcell T.o hcls E0.sub E0.sup E0.ve E0.no he
      (pa_cons (pe_var (i := 1) rfl (Or.inl rfl)) pa_nil) ⟨_, rfl, rfl, by simp⟩) (fun u s2 I2 => ?_) fun _ _ z => z))
    refine PySem.wpAt_of_wpAny ((pss_one (ps_ost (pe_var (i := 0) rfl (Or.inl rfl)) (pe_var (i := 1) rfl (Or.inl rfl)))).run [] s2 _ H _ I2 ?_)
    refine ⟨_, rfl, _, rfl, e, _, rfl, T.o, no _ (by simp), .inl ⟨he, fun dx h1 h2 => ?_⟩⟩
    refine hq dx _ h1 h2 upd_same (by rw [upd_ne h2]; exact upd_same) fun b h3 h4 => by rw [upd_ne h3, upd_ne h4]
  · exact Binds.all fun us hl => match us, hl with | [_, _], _ => rfl
end
end K75

set_option maxHeartbeats 0
namespace K75
open PySem PySem.Spec L2 Nt Nx
open PyProof.Rows hiding St
section
variable {P : Program} {w : World} {K : PySem.W.Frag} {mg : Str → Option Value} {base : Heap}
noncomputable def b__law_bag : SM := sRt (eNew (lim (aCons (eC (.int 0)) (aCons (eC (.int 1234567891)) (aCons (eC (.int 0)) (aCons (eFrz (eLc (iSeq (eSl (eV 0) (pNo) (pSo (eC (.int 63))))) (lN 1) (tTt) (eB absD (aCons (eV 1) (aNil))) [1])) (aNil)))))))
noncomputable def m__law_bag : List D → M D := fnB 2 1 b__law_bag
noncomputable def q__law_bag : { q : List Stmt × Scope // (defBody s__law_bag, defScope s__law_bag) = q } := by
  refine ⟨?q, ?h⟩
  case h =>
    conv =>
      lhs
      congr
      · whnf
      · whnf
theorem sc__law_bag : FnScope ["script", "cell"] ["script"] q__law_bag.val.2 := ⟨rfl, rfl, rfl, by decide +kernel, rfl, by decide +kernel, by decide +kernel⟩
theorem ok__law_bag (y : Hy fa fn K mg)   : Dn P w K mg base 1 "_law_bag" ["script"] m__law_bag := by
  obtain ⟨fd, F0⟩ := y.c.def_ 36 (d := d__law_bag) rfl
  have F : FunD K d__law_bag.name d__law_bag.qual d__law_bag.params q__law_bag.val.1 q__law_bag.val.2 [] [] (He.fAd K d__law_bag.at_) fd := F0
  refine ⟨_, fd, y.glo 17, F.kp, FunD.bindsN F fun _ _ _ _ _ _ us hl => match us, hl with | [_], _ => rfl, fn_okD F sc__law_bag fun cdv A outer s H E cz => ?_⟩
  exact dss_one (by exact ds_ret (by exact de_new (by exact dn_lst (by exact da_cons (by exact de_int) (by exact da_cons (by exact de_int) (by exact da_cons (by exact de_int) (by exact da_cons (by exact de_frz (by exact dn_lc (own := [("cell", 1)]) (sl := [1]) cz.calm sc__law_bag.nd (by exact di_seq (by exact de_sl (by exact de_var 0) (by exact dp_none) (by exact dp_some (by exact de_int)))) (by refine blkOk_by ?_; (conv => lhs; arg 1; whnf); (conv => lhs; arg 2; whnf); first | decide +kernel | kernel_rfl | rfl) (by decide) (fun _ _ _ _ _ => by exact dl_name 1 sc__law_bag.nd) (fun _ _ _ _ _ => by exact dts_nil) (fun _ _ _ _ _ => by exact de_bi cd_abs (y.free 83) (by exact da_cons (by exact de_var 1) (by exact da_nil))))) (by exact da_nil))))))))
noncomputable def b__law_take : SM := sSq (sIf (tB' (eO eqD (eO ixD (eV 0) (eC (.int 0))) (eC (.int 0)))) (sSq (sSet 2 (eO ixD (eO addD (eSl (eO ixD (eV 0) (eC (.int 3))) (pSo (eO ixD (eV 0) (eC (.int 2)))) (pNo)) (eFrz (lim (aCons (eC (.int 0)) (aNil))))) (eC (.int 0)))) (sSq (sAuS iaddD (eV 0) (eC (.int 2)) (eC (.int 1))) (sSq (sIf (tB' (eO geD (eV 2) (eO powD (eC (.int 10)) (eC (.int 18))))) (sAs (eV 2) (gSb (eV 0) (eC (.int 0)))) (sNx)) (sSq (sSet 3 (eO addD (eO addD (eO mulD (eO ixD (eV 0) (eC (.int 1))) (eC (.int 48271))) (eO modD (eB intD (aCons (eV 2) (aNil))) (eC (.int 2147483647)))) (eO mulD (eC (.int 7919)) (eO ixD (eV 0) (eC (.int 2)))))) (sAs (eO modD (eB intD (aCons (eV 3) (aNil))) (eC (.int 2147483647))) (gSb (eV 0) (eC (.int 1)))))))) (sNx)) (sSq (sIf (tB' (eO gtD (eO ixD (eV 0) (eC (.int 0))) (eC (.int 0)))) (sSq (sSet 4 (eO modD (eB intD (aCons (eO ixD (eV 0) (eC (.int 0))) (aNil))) (eV 1))) (sSq (sAs (eO fdivD (eB intD (aCons (eO ixD (eV 0) (eC (.int 0))) (aNil))) (eV 1)) (gSb (eV 0) (eC (.int 0)))) (sRt (eV 4)))) (sNx)) (sSq (sSet 5 (eO modD (eB intD (aCons (eO mulD (eO addD (eO ixD (eV 0) (eC (.int 1))) (eC (.int 1))) (eC (.int 39373))) (aNil))) (eC (.int 1000000007)))) (sSq (sSet 6 (eO modD (eB intD (aCons (eO mulD (eO modD (eB intD (aCons (eO mulD (eV 5) (eV 5)) (aNil))) (eC (.int 998244353))) (eC (.int 30011))) (aNil))) (eC (.int 998244353)))) (sRt (eO modD (eB intD (aCons (eO fdivD (eV 6) (eC (.int 7))) (aNil))) (eV 1))))))
noncomputable def m__law_take : List D → M D := fnB 7 2 b__law_take
noncomputable def q__law_take : { q : List Stmt × Scope // (defBody s__law_take, defScope s__law_take) = q } := by
  refine ⟨?q, ?h⟩
  case h =>
    conv =>
      lhs
      congr
      · whnf
      · whnf
theorem sc__law_take : FnScope ["bag", "many", "cell", "stirred", "value", "begin", "second"] ["bag", "many"] q__law_take.val.2 := ⟨rfl, rfl, rfl, by decide +kernel, rfl, by decide +kernel, by decide +kernel⟩
theorem ok__law_take (y : Hy fa fn K mg)   : Dn P w K mg base 1 "_law_take" ["bag", "many"] m__law_take := by
  obtain ⟨fd, F0⟩ := y.c.def_ 37 (d := d__law_take) rfl
  have F : FunD K d__law_take.name d__law_take.qual d__law_take.params q__law_take.val.1 q__law_take.val.2 [] [] (He.fAd K d__law_take.at_) fd := F0
  refine ⟨_, fd, y.glo 18, F.kp, FunD.bindsN F fun _ _ _ _ _ _ us hl => match us, hl with | [_, _], _ => rfl, fn_okD F sc__law_take fun cdv A outer s H E cz => ?_⟩
  exact dss_cons (by exact ds_if (by exact dt_cmp (od_eq cz.hu) (by exact de_ix (by exact de_var 0) (by exact de_int)) (by exact de_int)) (by exact dss_cons (by exact ds_set 2 (by exact de_ix (by exact de_op od_add (by exact de_sl (by exact de_ix (by exact de_var 0) (by exact de_int)) (by exact dp_some (by exact de_ix (by exact de_var 0) (by exact de_int))) (by exact dp_none)) (by exact de_frz (by exact dn_lst (by exact da_cons (by exact de_int) (by exact da_nil))))) (by exact de_int)) sc__law_take.nd) (by exact dss_cons (by exact ds_augS od_iadd (by exact de_var 0) (by exact de_int) (by exact de_int)) (by exact dss_cons (by exact ds_if (by exact dt_cmp (od_ge) (by exact de_var 2) (by exact de_op od_pow (by exact de_int) (by exact de_int))) (by exact dss_one (by exact ds_asg (by exact de_var 2) (by exact dg_sub (by exact de_var 0) (by exact de_int)))) (by exact dss_nil)) (by exact dss_cons (by exact ds_set 3 (by exact de_op od_add (by exact de_op od_add (by exact de_op od_mul (by exact de_ix (by exact de_var 0) (by exact de_int)) (by exact de_int)) (by exact de_op od_mod (by exact de_ty cd_int (y.free 87) (by exact da_cons (by exact de_var 2) (by exact da_nil))) (by exact de_int))) (by exact de_op od_mul (by exact de_int) (by exact de_ix (by exact de_var 0) (by exact de_int)))) sc__law_take.nd) (by exact dss_one (by exact ds_asg (by exact de_op od_mod (by exact de_ty cd_int (y.free 87) (by exact da_cons (by exact de_var 3) (by exact da_nil))) (by exact de_int)) (by exact dg_sub (by exact de_var 0) (by exact de_int)))))))) (by exact dss_nil)) (by exact dss_cons (by exact ds_if (by exact dt_cmp (od_gt) (by exact de_ix (by exact de_var 0) (by exact de_int)) (by exact de_int)) (by exact dss_cons (by exact ds_set 4 (by exact de_op od_mod (by exact de_ty cd_int (y.free 87) (by exact da_cons (by exact de_ix (by exact de_var 0) (by exact de_int)) (by exact da_nil))) (by exact de_var 1)) sc__law_take.nd) (by exact dss_cons (by exact ds_asg (by exact de_op od_fdiv (by exact de_ty cd_int (y.free 87) (by exact da_cons (by exact de_ix (by exact de_var 0) (by exact de_int)) (by exact da_nil))) (by exact de_var 1)) (by exact dg_sub (by exact de_var 0) (by exact de_int))) (by exact dss_one (by exact ds_ret (by exact de_var 4))))) (by exact dss_nil)) (by exact dss_cons (by exact ds_set 5 (by exact de_op od_mod (by exact de_ty cd_int (y.free 87) (by exact da_cons (by exact de_op od_mul (by exact de_op od_add (by exact de_ix (by exact de_var 0) (by exact de_int)) (by exact de_int)) (by exact de_int)) (by exact da_nil))) (by exact de_int)) sc__law_take.nd) (by exact dss_cons (by exact ds_set 6 (by exact de_op od_mod (by exact de_ty cd_int (y.free 87) (by exact da_cons (by exact de_op od_mul (by exact de_op od_mod (by exact de_ty cd_int (y.free 87) (by exact da_cons (by exact de_op od_mul (by exact de_var 5) (by exact de_var 5)) (by exact da_nil))) (by exact de_int)) (by exact de_int)) (by exact da_nil))) (by exact de_int)) sc__law_take.nd) (by exact dss_one (by exact ds_ret (by exact de_op od_mod (by exact de_ty cd_int (y.free 87) (by exact da_cons (by exact de_op od_fdiv (by exact de_var 6) (by exact de_int)) (by exact da_nil))) (by exact de_var 1)))))))
noncomputable def b__law_mixed : SM := sSq (sPar 2 3 (eNew (nB listD (aCons (eV 1) (aNil)))) (eNew (lim (aNil)))) (sSq (sWhile (tB' (eO neD (eV 2) (eFrz (lim (aNil))))) (sEx (eMt1 appendF (eV 3) (aCons (eMt1 popF (eV 2) (aCons (eCall 2 m__law_take (aCons (eV 0) (aCons (eB lenD (aCons (eV 2) (aNil))) (aNil)))) (aNil))) (aNil))))) (sRt (eV 3)))
noncomputable def m__law_mixed : List D → M D := fnB 4 2 b__law_mixed
noncomputable def q__law_mixed : { q : List Stmt × Scope // (defBody s__law_mixed, defScope s__law_mixed) = q } := by
  refine ⟨?q, ?h⟩
  case h =>
    conv =>
      lhs
      congr
      · whnf
      · whnf
theorem sc__law_mixed : FnScope ["bag", "things", "left", "found"] ["bag", "things"] q__law_mixed.val.2 := ⟨rfl, rfl, rfl, by decide +kernel, rfl, by decide +kernel, by decide +kernel⟩
theorem ok__law_mixed (y : Hy fa fn K mg) (c__law_take : Dn P w K mg base 1 "_law_take" ["bag", "many"] m__law_take)  : Dn P w K mg base 2 "_law_mixed" ["bag", "things"] m__law_mixed := by
  obtain ⟨fd, F0⟩ := y.c.def_ 39 (d := d__law_mixed) rfl
  have F : FunD K d__law_mixed.name d__law_mixed.qual d__law_mixed.params q__law_mixed.val.1 q__law_mixed.val.2 [] [] (He.fAd K d__law_mixed.at_) fd := F0
  refine ⟨_, fd, y.glo 20, F.kp, FunD.bindsN F fun _ _ _ _ _ _ us hl => match us, hl with | [_, _], _ => rfl, fn_okD F sc__law_mixed fun cdv A outer s H E cz => ?_⟩
  exact dss_cons (by exact ds_par 2 3 (by exact de_new (by exact dn_ty cn_list (y.free 90) (by exact da_cons (by exact de_var 1) (by exact da_nil)))) (by exact de_new (by exact dn_lst (by exact da_nil))) cz.calm sc__law_mixed.nd) (by exact dss_cons (by exact ds_while cz.po (by exact dt_cmp (od_ne cz.hu) (by exact de_var 2) (by exact de_frz (by exact dn_lst (by exact da_nil)))) (by exact dss_one (by exact ds_expr (by exact de_mt PySem.F.slot_list_append PySem.F.type_list_append ml_append (by exact de_var 3) (by exact da_cons (by exact de_mt PySem.F.slot_list_pop PySem.F.type_list_pop ml_pop (by exact de_var 2) (by exact da_cons (by exact de_cl c__law_take cz.tk cz.room (by exact da_cons (by exact de_var 0) (by exact da_cons (by exact de_bi cd_len (y.free 89) (by exact da_cons (by exact de_var 2) (by exact da_nil))) (by exact da_nil)))) (by exact da_nil))) (by exact da_nil)))))) (by exact dss_one (by exact ds_ret (by exact de_var 3))))
noncomputable def b__law_zones : SM := sRt (eB tupleD (aCons (eFrz (nB sortD (aCons (eSl (eCall 2 m__law_mixed (aCons (eV 0) (aCons (eFrz (rgL (eC (.int 1)) (eO addD (eV 1) (eC (.int 1))))) (aNil)))) (pNo) (pSo (eO addD (eC (.int 1)) (eCall 2 m__law_take (aCons (eV 0) (aCons (eV 1) (aNil))))))) (aNil)))) (aNil)))
noncomputable def m__law_zones : List D → M D := fnB 2 2 b__law_zones
noncomputable def q__law_zones : { q : List Stmt × Scope // (defBody s__law_zones, defScope s__law_zones) = q } := by
  refine ⟨?q, ?h⟩
  case h =>
    conv =>
      lhs
      congr
      · whnf
      · whnf
theorem sc__law_zones : FnScope ["bag", "most"] ["bag", "most"] q__law_zones.val.2 := ⟨rfl, rfl, rfl, by decide +kernel, rfl, by decide +kernel, by decide +kernel⟩
theorem ok__law_zones (y : Hy fa fn K mg) (c__law_mixed : Dn P w K mg base 2 "_law_mixed" ["bag", "things"] m__law_mixed) (c__law_take : Dn P w K mg base 1 "_law_take" ["bag", "many"] m__law_take)  : Dn P w K mg base 3 "_law_zones" ["bag", "most"] m__law_zones := by
  obtain ⟨fd, F0⟩ := y.c.def_ 43 (d := d__law_zones) rfl
  have F : FunD K d__law_zones.name d__law_zones.qual d__law_zones.params q__law_zones.val.1 q__law_zones.val.2 [] [] (He.fAd K d__law_zones.at_) fd := F0
  refine ⟨_, fd, y.glo 24, F.kp, FunD.bindsN F fun _ _ _ _ _ _ us hl => match us, hl with | [_, _], _ => rfl, fn_okD F sc__law_zones fun cdv A outer s H E cz => ?_⟩
  exact dss_one (by exact ds_ret (by exact de_ty cd_tuple (y.free 99) (by exact da_cons (by exact de_frz (by exact dn_bi (cn_sorted cz.hu) (y.free 95) (by exact da_cons (by exact de_sl (by exact de_cl c__law_mixed cz.tk cz.room (by exact da_cons (by exact de_var 0) (by exact da_cons (by exact de_frz (by exact dn_rg cz.calm (y.free 90) (y.free 93) (by exact de_int) (by exact de_op od_add (by exact de_var 1) (by exact de_int)))) (by exact da_nil)))) (by exact dp_none) (by exact dp_some (by exact de_op od_add (by exact de_int) (by exact de_cl c__law_take cz.tk cz.room (by exact da_cons (by exact de_var 0) (by exact da_cons (by exact de_var 1) (by exact da_nil))))))) (by exact da_nil)))) (by exact da_nil))))
noncomputable def b__law_ride : SM := sRt (eTup (aCons (eCall 2 m__law_zones (aCons (eV 0) (aCons (eV 1) (aNil)))) (aCons (eCall 2 m__law_take (aCons (eV 0) (aCons (eO addD (eV 2) (eC (.int 1))) (aNil)))) (aNil))))
noncomputable def m__law_ride : List D → M D := fnB 3 3 b__law_ride
noncomputable def q__law_ride : { q : List Stmt × Scope // (defBody s__law_ride, defScope s__law_ride) = q } := by
  refine ⟨?q, ?h⟩
  case h =>
    conv =>
      lhs
      congr
      · whnf
      · whnf
theorem sc__law_ride : FnScope ["bag", "most", "price"] ["bag", "most", "price"] q__law_ride.val.2 := ⟨rfl, rfl, rfl, by decide +kernel, rfl, by decide +kernel, by decide +kernel⟩
theorem ok__law_ride (y : Hy fa fn K mg) (c__law_take : Dn P w K mg base 1 "_law_take" ["bag", "many"] m__law_take) (c__law_zones : Dn P w K mg base 3 "_law_zones" ["bag", "most"] m__law_zones)  : Dn P w K mg base 4 "_law_ride" ["bag", "most", "price"] m__law_ride := by
  obtain ⟨fd, F0⟩ := y.c.def_ 44 (d := d__law_ride) rfl
  have F : FunD K d__law_ride.name d__law_ride.qual d__law_ride.params q__law_ride.val.1 q__law_ride.val.2 [] [] (He.fAd K d__law_ride.at_) fd := F0
  refine ⟨_, fd, y.glo 25, F.kp, FunD.bindsN F fun _ _ _ _ _ _ us hl => match us, hl with | [_, _, _], _ => rfl, fn_okD F sc__law_ride fun cdv A outer s H E cz => ?_⟩
  exact dss_one (by exact ds_ret (by exact de_tup (by exact da_cons (by exact de_cl c__law_zones cz.tk cz.room (by exact da_cons (by exact de_var 0) (by exact da_cons (by exact de_var 1) (by exact da_nil)))) (by exact da_cons (by exact de_cl c__law_take cz.tk cz.room (by exact da_cons (by exact de_var 0) (by exact da_cons (by exact de_op od_add (by exact de_var 2) (by exact de_int)) (by exact da_nil)))) (by exact da_nil)))))
noncomputable def b__law_passes : SM := sSq (sSet 4 (eFrz (eLc (iRg1 (eCall 2 m__law_take (aCons (eV 0) (aCons (eO addD (eV 1) (eC (.int 1))) (aNil))))) (lN 5) (tTt) (eCall 3 m__law_ride (aCons (eV 0) (aCons (eV 2) (aCons (eV 3) (aNil))))) [5]))) (sRt (eB tupleD (aCons (eFrz (nB sortD (aCons (eO addD (eV 4) (eSl (eV 4) (pNo) (pSo (eB intD (aCons (eO eqD (eCall 2 m__law_take (aCons (eV 0) (aCons (eC (.int 6)) (aNil)))) (eC (.int 0))) (aNil)))))) (aNil)))) (aNil))))
noncomputable def m__law_passes : List D → M D := fnB 6 4 b__law_passes
noncomputable def q__law_passes : { q : List Stmt × Scope // (defBody s__law_passes, defScope s__law_passes) = q } := by
  refine ⟨?q, ?h⟩
  case h =>
    conv =>
      lhs
      congr
      · whnf
      · whnf
theorem sc__law_passes : FnScope ["bag", "many", "most", "price", "found", "one"] ["bag", "many", "most", "price"] q__law_passes.val.2 := ⟨rfl, rfl, rfl, by decide +kernel, rfl, by decide +kernel, by decide +kernel⟩
theorem ok__law_passes (y : Hy fa fn K mg) (c__law_take : Dn P w K mg base 1 "_law_take" ["bag", "many"] m__law_take) (c__law_ride : Dn P w K mg base 4 "_law_ride" ["bag", "most", "price"] m__law_ride)  : Dn P w K mg base 5 "_law_passes" ["bag", "many", "most", "price"] m__law_passes := by
  obtain ⟨fd, F0⟩ := y.c.def_ 45 (d := d__law_passes) rfl
  have F : FunD K d__law_passes.name d__law_passes.qual d__law_passes.params q__law_passes.val.1 q__law_passes.val.2 [] [] (He.fAd K d__law_passes.at_) fd := F0
  refine ⟨_, fd, y.glo 26, F.kp, FunD.bindsN F fun _ _ _ _ _ _ us hl => match us, hl with | [_, _, _, _], _ => rfl, fn_okD F sc__law_passes fun cdv A outer s H E cz => ?_⟩
  exact dss_cons (by exact ds_setLc 4 (mk := eFrz) (own := [("one", 5)]) (sl := [5]) cz.calm sc__law_passes.nd (by exact di_r1 (y.free 93) (by exact de_cl c__law_take cz.tk cz.room (by exact da_cons (by exact de_var 0) (by exact da_cons (by exact de_op od_add (by exact de_var 1) (by exact de_int)) (by exact da_nil))))) (by refine blkOk_by ?_; (conv => lhs; arg 1; whnf); (conv => lhs; arg 2; whnf); first | decide +kernel | kernel_rfl | rfl) (by decide) (fun _ _ _ _ _ => by exact dl_name 5 sc__law_passes.nd) (fun _ _ _ _ _ => by exact dts_nil) (fun _ _ _ _ _ => by exact de_cl c__law_ride tkz cz.room (by exact da_cons (by exact de_var 0) (by exact da_cons (by exact de_var 2) (by exact da_cons (by exact de_var 3) (by exact da_nil))))) frz_read) (by exact dss_one (by exact ds_ret (by exact de_ty cd_tuple (y.free 99) (by exact da_cons (by exact de_frz (by exact dn_bi (cn_sorted cz.hu) (y.free 95) (by exact da_cons (by exact de_op od_add (by exact de_var 4) (by exact de_sl (by exact de_var 4) (by exact dp_none) (by exact dp_some (by exact de_ty cd_int (y.free 87) (by exact da_cons (by exact de_cmp (od_eq cz.hu) (by exact de_cl c__law_take cz.tk cz.room (by exact da_cons (by exact de_var 0) (by exact da_cons (by exact de_int) (by exact da_nil)))) (by exact de_int)) (by exact da_nil)))))) (by exact da_nil)))) (by exact da_nil)))))
noncomputable def b__law_money : SM := sSq (sSet 2 (eC (.int 0))) (sSq (sFor (iSeq (eSl (eV 0) (pNo) (pSo (eV 1)))) (gL (lN 3)) (sSet 2 (tIf' (tB' (eO eqD (eO ixD (eV 3) (eC (.int 0))) (eC (.str "day")))) (eC (.int 0)) (eO addD (eV 2) (tIf' (tB' (eO eqD (eO ixD (eV 3) (eC (.int 0))) (eC (.str "ride")))) (eO ixD (eV 3) (eC (.int 2))) (eC (.int 0))))))) (sRt (eV 2)))
noncomputable def m__law_money : List D → M D := fnB 4 2 b__law_money
noncomputable def q__law_money : { q : List Stmt × Scope // (defBody s__law_money, defScope s__law_money) = q } := by
  refine ⟨?q, ?h⟩
  case h =>
    conv =>
      lhs
      congr
      · whnf
      · whnf
theorem sc__law_money : FnScope ["record", "index", "money", "line"] ["record", "index"] q__law_money.val.2 := ⟨rfl, rfl, rfl, by decide +kernel, rfl, by decide +kernel, by decide +kernel⟩
theorem ok__law_money (y : Hy fa fn K mg)   : Dn P w K mg base 1 "_law_money" ["record", "index"] m__law_money := by
  obtain ⟨fd, F0⟩ := y.c.def_ 54 (d := d__law_money) rfl
  have F : FunD K d__law_money.name d__law_money.qual d__law_money.params q__law_money.val.1 q__law_money.val.2 [] [] (He.fAd K d__law_money.at_) fd := F0
  refine ⟨_, fd, y.glo 35, F.kp, FunD.bindsN F fun _ _ _ _ _ _ us hl => match us, hl with | [_, _], _ => rfl, fn_okD F sc__law_money fun cdv A outer s H E cz => ?_⟩
  exact dss_cons (by exact ds_set 2 (by exact de_int) sc__law_money.nd) (by exact dss_cons (by exact ds_for cz.po cz.calm (by exact di_seq (by exact de_sl (by exact de_var 0) (by exact dp_none) (by exact dp_some (by exact de_var 1)))) (DL.dg (by exact dl_name 3 sc__law_money.nd)) (by exact dss_one (by exact ds_set 2 (by exact de_ifExp (by exact dt_cmp (od_eq cz.hu) (by exact de_ix (by exact de_var 3) (by exact de_int)) (by exact de_str)) (by exact de_int) (by exact de_op od_add (by exact de_var 2) (by exact de_ifExp (by exact dt_cmp (od_eq cz.hu) (by exact de_ix (by exact de_var 3) (by exact de_int)) (by exact de_str)) (by exact de_ix (by exact de_var 3) (by exact de_int)) (by exact de_int)))) sc__law_money.nd))) (by exact dss_one (by exact ds_ret (by exact de_var 2))))
noncomputable def b__law_some : SM := sRt (eO ixD (eV 1) (eCall 2 m__law_take (aCons (eV 0) (aCons (eB lenD (aCons (eV 1) (aNil))) (aNil)))))
noncomputable def m__law_some : List D → M D := fnB 2 2 b__law_some
noncomputable def q__law_some : { q : List Stmt × Scope // (defBody s__law_some, defScope s__law_some) = q } := by
  refine ⟨?q, ?h⟩
  case h =>
    conv =>
      lhs
      congr
      · whnf
      · whnf
theorem sc__law_some : FnScope ["bag", "things"] ["bag", "things"] q__law_some.val.2 := ⟨rfl, rfl, rfl, by decide +kernel, rfl, by decide +kernel, by decide +kernel⟩
theorem ok__law_some (y : Hy fa fn K mg) (c__law_take : Dn P w K mg base 1 "_law_take" ["bag", "many"] m__law_take)  : Dn P w K mg base 2 "_law_some" ["bag", "things"] m__law_some := by
  obtain ⟨fd, F0⟩ := y.c.def_ 38 (d := d__law_some) rfl
  have F : FunD K d__law_some.name d__law_some.qual d__law_some.params q__law_some.val.1 q__law_some.val.2 [] [] (He.fAd K d__law_some.at_) fd := F0
  refine ⟨_, fd, y.glo 19, F.kp, FunD.bindsN F fun _ _ _ _ _ _ us hl => match us, hl with | [_, _], _ => rfl, fn_okD F sc__law_some fun cdv A outer s H E cz => ?_⟩
  exact dss_one (by exact ds_ret (by exact de_ix (by exact de_var 1) (by exact de_cl c__law_take cz.tk cz.room (by exact da_cons (by exact de_var 0) (by exact da_cons (by exact de_bi cd_len (y.free 89) (by exact da_cons (by exact de_var 1) (by exact da_nil))) (by exact da_nil))))))
noncomputable def b__law_holds : SM := sRt (eO eqD (eFrz (eLc (iSeq (eO ixD (eV 1) (eC (.int 0)))) (lN 2) (tB' (eO (inD true) (eV 2) (eV 0))) (eC (.int 1)) [2])) (eFrz (lim (aNil))))
noncomputable def m__law_holds : List D → M D := fnB 3 2 b__law_holds
noncomputable def q__law_holds : { q : List Stmt × Scope // (defBody s__law_holds, defScope s__law_holds) = q } := by
  refine ⟨?q, ?h⟩
  case h =>
    conv =>
      lhs
      congr
      · whnf
      · whnf
theorem sc__law_holds : FnScope ["zones", "ride", "zone"] ["zones", "ride"] q__law_holds.val.2 := ⟨rfl, rfl, rfl, by decide +kernel, rfl, by decide +kernel, by decide +kernel⟩
theorem ok__law_holds (y : Hy fa fn K mg)   : Dn P w K mg base 1 "_law_holds" ["zones", "ride"] m__law_holds := by
  obtain ⟨fd, F0⟩ := y.c.def_ 42 (d := d__law_holds) rfl
  have F : FunD K d__law_holds.name d__law_holds.qual d__law_holds.params q__law_holds.val.1 q__law_holds.val.2 [] [] (He.fAd K d__law_holds.at_) fd := F0
  refine ⟨_, fd, y.glo 23, F.kp, FunD.bindsN F fun _ _ _ _ _ _ us hl => match us, hl with | [_, _], _ => rfl, fn_okD F sc__law_holds fun cdv A outer s H E cz => ?_⟩
  exact dss_one (by exact ds_ret (by exact de_cmp (od_eq cz.hu) (by exact de_frz (by exact dn_lc (own := [("zone", 2)]) (sl := [2]) cz.calm sc__law_holds.nd (by exact di_seq (by exact de_ix (by exact de_var 1) (by exact de_int))) (by refine blkOk_by ?_; (conv => lhs; arg 1; whnf); (conv => lhs; arg 2; whnf); first | decide +kernel | kernel_rfl | rfl) (by decide) (fun _ _ _ _ _ => by exact dl_name 2 sc__law_holds.nd) (fun _ _ _ _ _ => by exact dts_one (by exact dt_cmp (od_nin) (by exact de_var 2) (by exact de_var 0))) (fun _ _ _ _ _ => by exact de_int))) (by exact de_frz (by exact dn_lst (by exact da_nil)))))
noncomputable def b__law_left : SM := sSq (sSet 3 (eFrz (eLc (iSeq (eV 0)) (lT 2 (lCs (lN 5) (lCs (lN 6) (lNl)))) (tTt) (eV 6) [5, 6]))) (sSq (sFor (iSeq (eSl (eV 1) (pNo) (pSo (eV 2)))) (gL (lN 4)) (sIf (tB' (eO eqD (eO ixD (eV 4) (eC (.int 0))) (eC (.str "day")))) (sSet 3 (eFrz (eLc (iSeq (eV 0)) (lT 2 (lCs (lN 5) (lCs (lN 6) (lNl)))) (tTt) (eV 6) [5, 6]))) (sIf (tB' (eO eqD (eO ixD (eV 4) (eC (.int 0))) (eC (.str "ride")))) (sSet 3 (eFrz (eLc (iZp (eV 0) (eV 3)) (lT 2 (lCs (lN 7) (lCs (lN 8) (lNl)))) (tTt) (eO subD (eV 8) (tIf' (tV (eCall 2 m__law_holds (aCons (eO ixD (eV 7) (eC (.int 0))) (aCons (eO ixD (eV 4) (eC (.int 1))) (aNil))))) (eO ixD (eV 4) (eC (.int 2))) (eC (.int 0)))) [7, 8]))) (sNx)))) (sRt (eV 3)))
noncomputable def m__law_left : List D → M D := fnB 9 3 b__law_left
noncomputable def q__law_left : { q : List Stmt × Scope // (defBody s__law_left, defScope s__law_left) = q } := by
  refine ⟨?q, ?h⟩
  case h =>
    conv =>
      lhs
      congr
      · whnf
      · whnf
theorem sc__law_left : FnScope ["caps", "record", "index", "left", "line", "zones", "price", "cap", "many"] ["caps", "record", "index"] q__law_left.val.2 := ⟨rfl, rfl, rfl, by decide +kernel, rfl, by decide +kernel, by decide +kernel⟩
theorem ok__law_left (y : Hy fa fn K mg) (c__law_holds : Dn P w K mg base 1 "_law_holds" ["zones", "ride"] m__law_holds)  : Dn P w K mg base 2 "_law_left" ["caps", "record", "index"] m__law_left := by
  obtain ⟨fd, F0⟩ := y.c.def_ 53 (d := d__law_left) rfl
  have F : FunD K d__law_left.name d__law_left.qual d__law_left.params q__law_left.val.1 q__law_left.val.2 [] [] (He.fAd K d__law_left.at_) fd := F0
  refine ⟨_, fd, y.glo 34, F.kp, FunD.bindsN F fun _ _ _ _ _ _ us hl => match us, hl with | [_, _, _], _ => rfl, fn_okD F sc__law_left fun cdv A outer s H E cz => ?_⟩
  exact dss_cons (by exact ds_setLc 3 (mk := eFrz) (own := [("zones", 5), ("price", 6)]) (sl := ([5] ++ ([6] ++ []))) cz.calm sc__law_left.nd (by exact di_seq (by exact de_var 0)) (by refine blkOk_by ?_; (conv => lhs; arg 1; whnf); (conv => lhs; arg 2; whnf); first | decide +kernel | kernel_rfl | rfl) (by decide) (fun _ _ _ _ _ => by exact dl_tup cz.calm (by exact dls_cons (by exact dl_name 5 sc__law_left.nd) (by exact dls_cons (by exact dl_name 6 sc__law_left.nd) (by exact dls_nil)))) (fun _ _ _ _ _ => by exact dts_nil) (fun _ _ _ _ _ => by exact de_var 6) frz_read) (by exact dss_cons (by exact ds_for cz.po cz.calm (by exact di_seq (by exact de_sl (by exact de_var 1) (by exact dp_none) (by exact dp_some (by exact de_var 2)))) (DL.dg (by exact dl_name 4 sc__law_left.nd)) (by exact dss_one (by exact ds_if (by exact dt_cmp (od_eq cz.hu) (by exact de_ix (by exact de_var 4) (by exact de_int)) (by exact de_str)) (by exact dss_one (by exact ds_setLc 3 (mk := eFrz) (own := [("zones", 5), ("price", 6)]) (sl := ([5] ++ ([6] ++ []))) cz.calm sc__law_left.nd (by exact di_seq (by exact de_var 0)) (by refine blkOk_by ?_; (conv => lhs; arg 1; whnf); (conv => lhs; arg 2; whnf); first | decide +kernel | kernel_rfl | rfl) (by decide) (fun _ _ _ _ _ => by exact dl_tup cz.calm (by exact dls_cons (by exact dl_name 5 sc__law_left.nd) (by exact dls_cons (by exact dl_name 6 sc__law_left.nd) (by exact dls_nil)))) (fun _ _ _ _ _ => by exact dts_nil) (fun _ _ _ _ _ => by exact de_var 6) frz_read)) (by exact dss_one (by exact ds_if (by exact dt_cmp (od_eq cz.hu) (by exact de_ix (by exact de_var 4) (by exact de_int)) (by exact de_str)) (by exact dss_one (by exact ds_setLc 3 (mk := eFrz) (own := [("cap", 7), ("many", 8)]) (sl := ([7] ++ ([8] ++ []))) cz.calm sc__law_left.nd (by exact di_zp (y.free 100) (by exact de_var 0) (by exact de_var 3)) (by refine blkOk_by ?_; (conv => lhs; arg 1; whnf); (conv => lhs; arg 2; whnf); first | decide +kernel | kernel_rfl | rfl) (by decide) (fun _ _ _ _ _ => by exact dl_tup cz.calm (by exact dls_cons (by exact dl_name 7 sc__law_left.nd) (by exact dls_cons (by exact dl_name 8 sc__law_left.nd) (by exact dls_nil)))) (fun _ _ _ _ _ => by exact dts_nil) (fun _ _ _ _ _ => by exact de_op od_sub (by exact de_var 8) (by exact de_ifExp (by exact dt_val (by exact de_cl c__law_holds tkz cz.room (by exact da_cons (by exact de_ix (by exact de_var 7) (by exact de_int)) (by exact da_cons (by exact de_ix (by exact de_var 4) (by exact de_int)) (by exact da_nil))))) (by exact de_ix (by exact de_var 4) (by exact de_int)) (by exact de_int))) frz_read)) (by exact dss_nil)))))) (by exact dss_one (by exact ds_ret (by exact de_var 3))))
noncomputable def b__law_due : SM := sSq (sSet 3 (eO ixD (eO ixD (eV 1) (eV 2)) (eC (.int 1)))) (sRt (eB maxD (aCons (eC (.int 0)) (aCons (eB minD (aCons (eO addD (eFrz (lim (aCons (eO ixD (eV 3) (eC (.int 1))) (aNil)))) (eFrz (eLc (iZp (eV 0) (eCall 3 m__law_left (aCons (eV 0) (aCons (eV 1) (aCons (eV 2) (aNil)))))) (lT 2 (lCs (lN 4) (lCs (lN 5) (lNl)))) (tV (eCall 2 m__law_holds (aCons (eO ixD (eV 4) (eC (.int 0))) (aCons (eV 3) (aNil))))) (eV 5) [4, 5]))) (aNil))) (aNil)))))
noncomputable def m__law_due : List D → M D := fnB 6 3 b__law_due
noncomputable def q__law_due : { q : List Stmt × Scope // (defBody s__law_due, defScope s__law_due) = q } := by
  refine ⟨?q, ?h⟩
  case h =>
    conv =>
      lhs
      congr
      · whnf
      · whnf
theorem sc__law_due : FnScope ["caps", "record", "index", "ride", "cap", "many"] ["caps", "record", "index"] q__law_due.val.2 := ⟨rfl, rfl, rfl, by decide +kernel, rfl, by decide +kernel, by decide +kernel⟩
theorem ok__law_due (y : Hy fa fn K mg) (c__law_left : Dn P w K mg base 2 "_law_left" ["caps", "record", "index"] m__law_left) (c__law_holds : Dn P w K mg base 1 "_law_holds" ["zones", "ride"] m__law_holds)  : Dn P w K mg base 3 "_law_due" ["caps", "record", "index"] m__law_due := by
  obtain ⟨fd, F0⟩ := y.c.def_ 55 (d := d__law_due) rfl
  have F : FunD K d__law_due.name d__law_due.qual d__law_due.params q__law_due.val.1 q__law_due.val.2 [] [] (He.fAd K d__law_due.at_) fd := F0
  refine ⟨_, fd, y.glo 36, F.kp, FunD.bindsN F fun _ _ _ _ _ _ us hl => match us, hl with | [_, _, _], _ => rfl, fn_okD F sc__law_due fun cdv A outer s H E cz => ?_⟩
  exact dss_cons (by exact ds_set 3 (by exact de_ix (by exact de_ix (by exact de_var 1) (by exact de_var 2)) (by exact de_int)) sc__law_due.nd) (by exact dss_one (by exact ds_ret (by exact de_bi (cd_max cz.calm) (y.free 91) (by exact da_cons (by exact de_int) (by exact da_cons (by exact de_bi (cd_min cz.calm) (y.free 92) (by exact da_cons (by exact de_op od_add (by exact de_frz (by exact dn_lst (by exact da_cons (by exact de_ix (by exact de_var 3) (by exact de_int)) (by exact da_nil)))) (by exact de_frz (by exact dn_lc (own := [("cap", 4), ("many", 5)]) (sl := ([4] ++ ([5] ++ []))) cz.calm sc__law_due.nd (by exact di_zp (y.free 100) (by exact de_var 0) (by exact de_cl c__law_left cz.tk cz.room (by exact da_cons (by exact de_var 0) (by exact da_cons (by exact de_var 1) (by exact da_cons (by exact de_var 2) (by exact da_nil)))))) (by refine blkOk_by ?_; (conv => lhs; arg 1; whnf); (conv => lhs; arg 2; whnf); first | decide +kernel | kernel_rfl | rfl) (by decide) (fun _ _ _ _ _ => by exact dl_tup cz.calm (by exact dls_cons (by exact dl_name 4 sc__law_due.nd) (by exact dls_cons (by exact dl_name 5 sc__law_due.nd) (by exact dls_nil)))) (fun _ _ _ _ _ => by exact dts_one (by exact dt_val (by exact de_cl c__law_holds tkz cz.room (by exact da_cons (by exact de_ix (by exact de_var 4) (by exact de_int)) (by exact da_cons (by exact de_var 3) (by exact da_nil)))))) (fun _ _ _ _ _ => by exact de_var 5)))) (by exact da_nil))) (by exact da_nil))))))
noncomputable def b__law_record : SM := sSq (sSet 3 (eTup (aNil))) (sSq (sFor (iRg1 (eCall 2 m__law_take (aCons (eV 0) (aCons (eO addD (eV 2) (eC (.int 1))) (aNil))))) (gL (lN 4)) (sSq (sSet 5 (eCall 2 m__law_take (aCons (eV 0) (aCons (eC (.int 8)) (aNil))))) (sIf (tB' (eO eqD (eV 5) (eC (.int 0)))) (sSet 3 (eO addD (eV 3) (eTup (aCons (eTup (aCons (eC (.str "day")) (aNil))) (aNil))))) (sIf (tB' (eO eqD (eV 5) (eC (.int 1)))) (sSet 3 (eO addD (eV 3) (eTup (aCons (eTup (aCons (eC (.str "count")) (aCons (eO addD (eCall 2 m__law_money (aCons (eV 3) (aCons (eB lenD (aCons (eV 3) (aNil))) (aNil)))) (eCall 2 m__law_some (aCons (eV 0) (aCons (eFrz (lim (aCons (eC (.int 0)) (aCons (eC (.int 0)) (aCons (eC (.int 0)) (aCons (eC (.int 1)) (aCons (eNg (eC (.int 1))) (aNil)))))))) (aNil))))) (aNil)))) (aNil))))) (sSq (sSet 6 (eCall 3 m__law_ride (aCons (eV 0) (aCons (eC (.int 4)) (aCons (eC (.int 9)) (aNil)))))) (sSq (sSet 3 (eO addD (eV 3) (eTup (aCons (eTup (aCons (eC (.str "ride")) (aCons (eV 6) (aCons (eC (.int 0)) (aNil))))) (aNil))))) (sSq (sSet 7 (eO addD (eCall 3 m__law_due (aCons (eV 1) (aCons (eV 3) (aCons (eO subD (eB lenD (aCons (eV 3) (aNil))) (eC (.int 1))) (aNil))))) (eCall 2 m__law_some (aCons (eV 0) (aCons (eFrz (lim (aCons (eC (.int 0)) (aCons (eC (.int 0)) (aCons (eC (.int 0)) (aCons (eC (.int 0)) (aCons (eC (.int 1)) (aCons (eNg (eC (.int 1))) (aCons (eC (.int 3)) (aNil)))))))))) (aNil)))))) (sSet 3 (eO addD (eSl (eV 3) (pNo) (pSo (eNg (eC (.int 1))))) (eTup (aCons (eTup (aCons (eC (.str "ride")) (aCons (eV 6) (aCons (eV 7) (aNil))))) (aNil)))))))))))) (sRt (eV 3)))
noncomputable def m__law_record : List D → M D := fnB 8 3 b__law_record
noncomputable def q__law_record : { q : List Stmt × Scope // (defBody s__law_record, defScope s__law_record) = q } := by
  refine ⟨?q, ?h⟩
  case h =>
    conv =>
      lhs
      congr
      · whnf
      · whnf
theorem sc__law_record : FnScope ["bag", "caps", "many", "found", "turn", "way", "ride", "charge"] ["bag", "caps", "many"] q__law_record.val.2 := ⟨rfl, rfl, rfl, by decide +kernel, rfl, by decide +kernel, by decide +kernel⟩
theorem ok__law_record (y : Hy fa fn K mg) (c__law_take : Dn P w K mg base 1 "_law_take" ["bag", "many"] m__law_take) (c__law_money : Dn P w K mg base 1 "_law_money" ["record", "index"] m__law_money) (c__law_some : Dn P w K mg base 2 "_law_some" ["bag", "things"] m__law_some) (c__law_ride : Dn P w K mg base 4 "_law_ride" ["bag", "most", "price"] m__law_ride) (c__law_due : Dn P w K mg base 3 "_law_due" ["caps", "record", "index"] m__law_due)  : Dn P w K mg base 5 "_law_record" ["bag", "caps", "many"] m__law_record := by
  obtain ⟨fd, F0⟩ := y.c.def_ 57 (d := d__law_record) rfl
  have F : FunD K d__law_record.name d__law_record.qual d__law_record.params q__law_record.val.1 q__law_record.val.2 [] [] (He.fAd K d__law_record.at_) fd := F0
  refine ⟨_, fd, y.glo 38, F.kp, FunD.bindsN F fun _ _ _ _ _ _ us hl => match us, hl with | [_, _, _], _ => rfl, fn_okD F sc__law_record fun cdv A outer s H E cz => ?_⟩
  exact dss_cons (by exact ds_set 3 (by exact de_tup (by exact da_nil)) sc__law_record.nd) (by exact dss_cons (by exact ds_for cz.po cz.calm (by exact di_r1 (y.free 93) (by exact de_cl c__law_take cz.tk cz.room (by exact da_cons (by exact de_var 0) (by exact da_cons (by exact de_op od_add (by exact de_var 2) (by exact de_int)) (by exact da_nil))))) (DL.dg (by exact dl_name 4 sc__law_record.nd)) (by exact dss_cons (by exact ds_set 5 (by exact de_cl c__law_take cz.tk cz.room (by exact da_cons (by exact de_var 0) (by exact da_cons (by exact de_int) (by exact da_nil)))) sc__law_record.nd) (by exact dss_one (by exact ds_if (by exact dt_cmp (od_eq cz.hu) (by exact de_var 5) (by exact de_int)) (by exact dss_one (by exact ds_set 3 (by exact de_op od_add (by exact de_var 3) (by exact de_tup (by exact da_cons (by exact de_tup (by exact da_cons (by exact de_str) (by exact da_nil))) (by exact da_nil)))) sc__law_record.nd)) (by exact dss_one (by exact ds_if (by exact dt_cmp (od_eq cz.hu) (by exact de_var 5) (by exact de_int)) (by exact dss_one (by exact ds_set 3 (by exact de_op od_add (by exact de_var 3) (by exact de_tup (by exact da_cons (by exact de_tup (by exact da_cons (by exact de_str) (by exact da_cons (by exact de_op od_add (by exact de_cl c__law_money cz.tk cz.room (by exact da_cons (by exact de_var 3) (by exact da_cons (by exact de_bi cd_len (y.free 89) (by exact da_cons (by exact de_var 3) (by exact da_nil))) (by exact da_nil)))) (by exact de_cl c__law_some cz.tk cz.room (by exact da_cons (by exact de_var 0) (by exact da_cons (by exact de_frz (by exact dn_lst (by exact da_cons (by exact de_int) (by exact da_cons (by exact de_int) (by exact da_cons (by exact de_int) (by exact da_cons (by exact de_int) (by exact da_cons (by exact de_neg (by exact de_int)) (by exact da_nil)))))))) (by exact da_nil))))) (by exact da_nil)))) (by exact da_nil)))) sc__law_record.nd)) (by exact dss_cons (by exact ds_set 6 (by exact de_cl c__law_ride cz.tk cz.room (by exact da_cons (by exact de_var 0) (by exact da_cons (by exact de_int) (by exact da_cons (by exact de_int) (by exact da_nil))))) sc__law_record.nd) (by exact dss_cons (by exact ds_set 3 (by exact de_op od_add (by exact de_var 3) (by exact de_tup (by exact da_cons (by exact de_tup (by exact da_cons (by exact de_str) (by exact da_cons (by exact de_var 6) (by exact da_cons (by exact de_int) (by exact da_nil))))) (by exact da_nil)))) sc__law_record.nd) (by exact dss_cons (by exact ds_set 7 (by exact de_op od_add (by exact de_cl c__law_due cz.tk cz.room (by exact da_cons (by exact de_var 1) (by exact da_cons (by exact de_var 3) (by exact da_cons (by exact de_op od_sub (by exact de_bi cd_len (y.free 89) (by exact da_cons (by exact de_var 3) (by exact da_nil))) (by exact de_int)) (by exact da_nil))))) (by exact de_cl c__law_some cz.tk cz.room (by exact da_cons (by exact de_var 0) (by exact da_cons (by exact de_frz (by exact dn_lst (by exact da_cons (by exact de_int) (by exact da_cons (by exact de_int) (by exact da_cons (by exact de_int) (by exact da_cons (by exact de_int) (by exact da_cons (by exact de_int) (by exact da_cons (by exact de_neg (by exact de_int)) (by exact da_cons (by exact de_int) (by exact da_nil)))))))))) (by exact da_nil))))) sc__law_record.nd) (by exact dss_one (by exact ds_set 3 (by exact de_op od_add (by exact de_sl (by exact de_var 3) (by exact dp_none) (by exact dp_some (by exact de_neg (by exact de_int)))) (by exact de_tup (by exact da_cons (by exact de_tup (by exact da_cons (by exact de_str) (by exact da_cons (by exact de_var 6) (by exact da_cons (by exact de_var 7) (by exact da_nil))))) (by exact da_nil)))) sc__law_record.nd))))))))))) (by exact dss_one (by exact ds_ret (by exact de_var 3))))
noncomputable def b__law_odd : SM := sSq (sSet 1 (eFrz (lim (aCons (eC .non) (aCons (eC (.bl true)) (aCons (eC (.bl false)) (aCons (eC (.int 0)) (aCons (eC (.int 1)) (aCons (eNg (eC (.int 1))) (aCons (eC (.int 8)) (aCons (eC (.int 9)) (aCons (eC (.int 12)) (aCons (eO powD (eC (.int 10)) (eC (.int 39))) (aCons (eC (.str "")) (aCons (eC (.str "ash")) (aCons (eC (.str "zone")) (aCons (eC (.str "Ash")) (aCons (eTup (aNil)) (aCons (eFrz (lim (aNil))) (aCons (eD0) (aCons (eTup (aCons (eC (.int 0)) (aNil))) (aCons (eFrz (lim (aCons (eC (.int 0)) (aNil)))) (aCons (eTup (aCons (eC (.int 1)) (aCons (eC (.int 2)) (aNil)))) (aCons (eTup (aCons (eC (.int 2)) (aCons (eC (.int 1)) (aNil)))) (aCons (eTup (aCons (eTup (aNil)) (aCons (eTup (aNil)) (aNil)))) (aNil)))))))))))))))))))))))))) (sRt (eCall 2 m__law_some (aCons (eV 0) (aCons (eO addD (eV 1) (eFrz (lim (aCons (eTup (aCons (eC (.str "ash")) (aCons (eC (.int 1)) (aNil)))) (aCons (eD1 "ash" 0) (aCons (eTup (aCons (eC (.int 0)) (aCons (eC (.bl true)) (aNil)))) (aCons (eTup (aCons (eC (.int 0)) (aCons (eC (.int 0)) (aCons (eC (.int 0)) (aNil))))) (aCons (eTup (aCons (eTup (aCons (eC (.int 1)) (aNil))) (aCons (eC (.int 5)) (aNil)))) (aCons (eC (.str "zz")) (aNil)))))))))) (aNil)))))
noncomputable def m__law_odd : List D → M D := fnB 2 1 b__law_odd
noncomputable def q__law_odd : { q : List Stmt × Scope // (defBody s__law_odd, defScope s__law_odd) = q } := by
  refine ⟨?q, ?h⟩
  case h =>
    conv =>
      lhs
      congr
      · whnf
      · whnf
theorem sc__law_odd : FnScope ["bag", "menu"] ["bag"] q__law_odd.val.2 := ⟨rfl, rfl, rfl, by decide +kernel, rfl, by decide +kernel, by decide +kernel⟩
theorem ok__law_odd (y : Hy fa fn K mg) (c__law_some : Dn P w K mg base 2 "_law_some" ["bag", "things"] m__law_some)  : Dn P w K mg base 3 "_law_odd" ["bag"] m__law_odd := by
  obtain ⟨fd, F0⟩ := y.c.def_ 49 (d := d__law_odd) rfl
  have F : FunD K d__law_odd.name d__law_odd.qual d__law_odd.params q__law_odd.val.1 q__law_odd.val.2 [] [] (He.fAd K d__law_odd.at_) fd := F0
  refine ⟨_, fd, y.glo 30, F.kp, FunD.bindsN F fun _ _ _ _ _ _ us hl => match us, hl with | [_], _ => rfl, fn_okD F sc__law_odd fun cdv A outer s H E cz => ?_⟩
  exact dss_cons (by exact ds_set 1 (by exact de_frz (by exact dn_lst (by exact da_cons (by exact de_non) (by exact da_cons (by exact de_bl) (by exact da_cons (by exact de_bl) (by exact da_cons (by exact de_int) (by exact da_cons (by exact de_int) (by exact da_cons (by exact de_neg (by exact de_int)) (by exact da_cons (by exact de_int) (by exact da_cons (by exact de_int) (by exact da_cons (by exact de_int) (by exact da_cons (by exact de_op od_pow (by exact de_int) (by exact de_int)) (by exact da_cons (by exact de_str) (by exact da_cons (by exact de_str) (by exact da_cons (by exact de_str) (by exact da_cons (by exact de_str) (by exact da_cons (by exact de_tup (by exact da_nil)) (by exact da_cons (by exact de_frz (by exact dn_lst (by exact da_nil))) (by exact da_cons (by exact de_d0) (by exact da_cons (by exact de_tup (by exact da_cons (by exact de_int) (by exact da_nil))) (by exact da_cons (by exact de_frz (by exact dn_lst (by exact da_cons (by exact de_int) (by exact da_nil)))) (by exact da_cons (by exact de_tup (by exact da_cons (by exact de_int) (by exact da_cons (by exact de_int) (by exact da_nil)))) (by exact da_cons (by exact de_tup (by exact da_cons (by exact de_int) (by exact da_cons (by exact de_int) (by exact da_nil)))) (by exact da_cons (by exact de_tup (by exact da_cons (by exact de_tup (by exact da_nil)) (by exact da_cons (by exact de_tup (by exact da_nil)) (by exact da_nil)))) (by exact da_nil))))))))))))))))))))))))) sc__law_odd.nd) (by exact dss_one (by exact ds_ret (by exact de_cl c__law_some cz.tk cz.room (by exact da_cons (by exact de_var 0) (by exact da_cons (by exact de_op od_add (by exact de_var 1) (by exact de_frz (by exact dn_lst (by exact da_cons (by exact de_tup (by exact da_cons (by exact de_str) (by exact da_cons (by exact de_int) (by exact da_nil)))) (by exact da_cons (by exact de_d1) (by exact da_cons (by exact de_tup (by exact da_cons (by exact de_int) (by exact da_cons (by exact de_bl) (by exact da_nil)))) (by exact da_cons (by exact de_tup (by exact da_cons (by exact de_int) (by exact da_cons (by exact de_int) (by exact da_cons (by exact de_int) (by exact da_nil))))) (by exact da_cons (by exact de_tup (by exact da_cons (by exact de_tup (by exact da_cons (by exact de_int) (by exact da_nil))) (by exact da_cons (by exact de_int) (by exact da_nil)))) (by exact da_cons (by exact de_str) (by exact da_nil)))))))))) (by exact da_nil))))))
noncomputable def b__law_bent (mr : List D → M D) : SM := sSq (sIf (tIf' (tB' (eO eqD (eV 2) (eC (.int 0)))) tTt (tIf' (tNo (tV (eIs ["tuple"] (eV 1)))) tTt (tIf' (tB' (eO eqD (eV 1) (eTup (aNil)))) tTt (tB' (eO eqD (eCall 2 m__law_take (aCons (eV 0) (aCons (eC (.int 4)) (aNil)))) (eC (.int 0))))))) (sSq (sIf (tIf' (tV (eIs ["tuple"] (eV 1))) (tIf' (tB' (eO neD (eV 1) (eTup (aNil)))) (tB' (eO eqD (eCall 2 m__law_take (aCons (eV 0) (aCons (eC (.int 2)) (aNil)))) (eC (.int 0)))) tFf) tFf) (sSq (sSet 3 (eCall 2 m__law_take (aCons (eV 0) (aCons (eO addD (eB lenD (aCons (eV 1) (aNil))) (eC (.int 1))) (aNil))))) (sSq (sSet 4 (eFrz (lim (aCons (eO addD (eSl (eV 1) (pNo) (pSo (eV 3))) (eSl (eV 1) (pSo (eO addD (eV 3) (eC (.int 1)))) (pNo))) (aCons (eO addD (eV 1) (eSl (eV 1) (pNo) (pSo (eC (.int 1))))) (aCons (eRv (eV 1)) (aCons (eFrz (nB listD (aCons (eV 1) (aNil)))) (aNil)))))))) (sRt (eCall 2 m__law_some (aCons (eV 0) (aCons (eO addD (eV 4) (eFrz (lim (aCons (eO addD (eO addD (eSl (eV 1) (pNo) (pSo (eV 3))) (eTup (aCons (eCall 1 m__law_odd (aCons (eV 0) (aNil))) (aNil)))) (eSl (eV 1) (pSo (eV 3)) (pNo))) (aNil))))) (aNil))))))) (sNx)) (sSq (sIf (tIf' (tV (eIs ["int"] (eV 1))) (tNo (tV (eIs ["bool"] (eV 1)))) tFf) (sRt (eCall 2 m__law_some (aCons (eV 0) (aCons (eFrz (lim (aCons (eO addD (eV 1) (eC (.int 1))) (aCons (eO subD (eV 1) (eC (.int 1))) (aCons (eNg (eC (.int 1))) (aCons (eO eqD (eV 1) (eC (.int 1))) (aCons (eB strD (aCons (eV 1) (aNil))) (aCons (eC (.int 8)) (aCons (eC (.int 9)) (aCons (eC (.int 0)) (aCons (eC (.int 100)) (aCons (eC (.int 101)) (aNil))))))))))))) (aNil))))) (sNx)) (sSq (sIf (tV (eIs ["str"] (eV 1))) (sRt (eCall 2 m__law_some (aCons (eV 0) (aCons (eFrz (lim (aCons (eO addD (eV 1) (eC (.str "s"))) (aCons (eSl (eV 1) (pSo (eC (.int 1))) (pNo)) (aCons (eUp (eV 1)) (aCons (eC (.str "")) (aCons (eC (.str "a")) (aCons (eC (.str "zz")) (aCons (eC (.str "in")) (aCons (eO addD (eV 1) (eC (.str "abcdefgh"))) (aNil))))))))))) (aNil))))) (sNx)) (sRt (eCall 1 m__law_odd (aCons (eV 0) (aNil))))))) (sNx)) (sSq (sSet 3 (eCall 2 m__law_take (aCons (eV 0) (aCons (eB lenD (aCons (eV 1) (aNil))) (aNil))))) (sRt (eO addD (eO addD (eSl (eV 1) (pNo) (pSo (eV 3))) (eTup (aCons (eCall 3 mr (aCons (eV 0) (aCons (eO ixD (eV 1) (eV 3)) (aCons (eO subD (eV 2) (eC (.int 1))) (aNil))))) (aNil)))) (eSl (eV 1) (pSo (eO addD (eV 3) (eC (.int 1)))) (pNo)))))
noncomputable def mf__law_bent : Nat → List D → M D
  | 0 => fnB 5 3 fun _ _ => .bad
  | n + 1 => fnB 5 3 (b__law_bent (mf__law_bent n))
noncomputable def m__law_bent : List D → M D := mf__law_bent 5
noncomputable def q__law_bent : { q : List Stmt × Scope // (defBody s__law_bent, defScope s__law_bent) = q } := by
  refine ⟨?q, ?h⟩
  case h =>
    conv =>
      lhs
      congr
      · whnf
      · whnf
theorem sc__law_bent : FnScope ["bag", "thing", "deep", "at", "some"] ["bag", "thing", "deep"] q__law_bent.val.2 := ⟨rfl, rfl, rfl, by decide +kernel, rfl, by decide +kernel, by decide +kernel⟩
theorem ok0__law_bent (y : Hy fa fn K mg) (c__law_take : Dn P w K mg base 1 "_law_take" ["bag", "many"] m__law_take) (c__law_some : Dn P w K mg base 2 "_law_some" ["bag", "things"] m__law_some) (c__law_odd : Dn P w K mg base 3 "_law_odd" ["bag"] m__law_odd)  : Dn P w K mg base 4 "_law_bent" ["bag", "thing", "deep"] (mf__law_bent 0) := by
  obtain ⟨fd, F0⟩ := y.c.def_ 50 (d := d__law_bent) rfl
  have F : FunD K d__law_bent.name d__law_bent.qual d__law_bent.params q__law_bent.val.1 q__law_bent.val.2 [] [] (He.fAd K d__law_bent.at_) fd := F0
  refine ⟨_, fd, y.glo 31, F.kp, FunD.bindsN F fun _ _ _ _ _ _ us hl => match us, hl with | [_, _, _], _ => rfl, fn_okD F sc__law_bent fun cdv A outer s H E cz => ?_⟩
  exact dss_bad
theorem okS__law_bent (y : Hy fa fn K mg) (c__law_take : Dn P w K mg base 1 "_law_take" ["bag", "many"] m__law_take) (c__law_some : Dn P w K mg base 2 "_law_some" ["bag", "things"] m__law_some) (c__law_odd : Dn P w K mg base 3 "_law_odd" ["bag"] m__law_odd) {k t : Nat} (hk : 3 ≤ k) (cr : Dn P w K mg base k "_law_bent" ["bag", "thing", "deep"] (mf__law_bent t)) : Dn P w K mg base (k + 1) "_law_bent" ["bag", "thing", "deep"] (mf__law_bent (t + 1)) := by
  obtain ⟨fd, F0⟩ := y.c.def_ 50 (d := d__law_bent) rfl
  have F : FunD K d__law_bent.name d__law_bent.qual d__law_bent.params q__law_bent.val.1 q__law_bent.val.2 [] [] (He.fAd K d__law_bent.at_) fd := F0
  refine ⟨_, fd, y.glo 31, F.kp, FunD.bindsN F fun _ _ _ _ _ _ us hl => match us, hl with | [_, _, _], _ => rfl, fn_okD F sc__law_bent fun cdv A outer s H E cz => ?_⟩
  exact dss_cons (by exact ds_if (by exact DW.dt (by exact dw_or (by exact dt_cmp (od_eq cz.hu) (by exact de_var 2) (by exact de_int)) (by exact dw_or (by exact dt_not (by exact dt_val (by exact de_isi (T := "tuple") (by exact de_var 1) (y.free 88) (y.free 99) (by decide)))) (by exact dw_or (by exact dt_cmp (od_eq cz.hu) (by exact de_var 1) (by exact de_tup (by exact da_nil))) (by exact dw_or1 (by exact dt_cmp (od_eq cz.hu) (by exact de_cl (hk := by omega) c__law_take cz.tk cz.room (by exact da_cons (by exact de_var 0) (by exact da_cons (by exact de_int) (by exact da_nil)))) (by exact de_int))))))) (by exact dss_cons (by exact ds_if (by exact DW.dt (by exact dw_and (by exact dt_val (by exact de_isi (T := "tuple") (by exact de_var 1) (y.free 88) (y.free 99) (by decide))) (by exact dw_and (by exact dt_cmp (od_ne cz.hu) (by exact de_var 1) (by exact de_tup (by exact da_nil))) (by exact dw_and1 (by exact dt_cmp (od_eq cz.hu) (by exact de_cl (hk := by omega) c__law_take cz.tk cz.room (by exact da_cons (by exact de_var 0) (by exact da_cons (by exact de_int) (by exact da_nil)))) (by exact de_int)))))) (by exact dss_cons (by exact ds_set 3 (by exact de_cl (hk := by omega) c__law_take cz.tk cz.room (by exact da_cons (by exact de_var 0) (by exact da_cons (by exact de_op od_add (by exact de_bi cd_len (y.free 89) (by exact da_cons (by exact de_var 1) (by exact da_nil))) (by exact de_int)) (by exact da_nil)))) sc__law_bent.nd) (by exact dss_cons (by exact ds_set 4 (by exact de_frz (by exact dn_lst (by exact da_cons (by exact de_op od_add (by exact de_sl (by exact de_var 1) (by exact dp_none) (by exact dp_some (by exact de_var 3))) (by exact de_sl (by exact de_var 1) (by exact dp_some (by exact de_op od_add (by exact de_var 3) (by exact de_int))) (by exact dp_none))) (by exact da_cons (by exact de_op od_add (by exact de_var 1) (by exact de_sl (by exact de_var 1) (by exact dp_none) (by exact dp_some (by exact de_int)))) (by exact da_cons (by exact de_rev (by exact de_var 1)) (by exact da_cons (by exact de_frz (by exact dn_ty cn_list (y.free 90) (by exact da_cons (by exact de_var 1) (by exact da_nil)))) (by exact da_nil))))))) sc__law_bent.nd) (by exact dss_one (by exact ds_ret (by exact de_cl (hk := by omega) c__law_some cz.tk cz.room (by exact da_cons (by exact de_var 0) (by exact da_cons (by exact de_op od_add (by exact de_var 4) (by exact de_frz (by exact dn_lst (by exact da_cons (by exact de_op od_add (by exact de_op od_add (by exact de_sl (by exact de_var 1) (by exact dp_none) (by exact dp_some (by exact de_var 3))) (by exact de_tup (by exact da_cons (by exact de_cl (hk := by omega) c__law_odd cz.tk cz.room (by exact da_cons (by exact de_var 0) (by exact da_nil))) (by exact da_nil)))) (by exact de_sl (by exact de_var 1) (by exact dp_some (by exact de_var 3)) (by exact dp_none))) (by exact da_nil))))) (by exact da_nil)))))))) (by exact dss_nil)) (by exact dss_cons (by exact ds_if (by exact DW.dt (by exact dw_and (by exact dt_val (by exact de_isi (T := "int") (by exact de_var 1) (y.free 88) (y.free 87) (by decide))) (by exact dw_and1 (by exact dt_not (by exact dt_val (by exact de_isi (T := "bool") (by exact de_var 1) (y.free 88) (y.free 85) (by decide))))))) (by exact dss_one (by exact ds_ret (by exact de_cl (hk := by omega) c__law_some cz.tk cz.room (by exact da_cons (by exact de_var 0) (by exact da_cons (by exact de_frz (by exact dn_lst (by exact da_cons (by exact de_op od_add (by exact de_var 1) (by exact de_int)) (by exact da_cons (by exact de_op od_sub (by exact de_var 1) (by exact de_int)) (by exact da_cons (by exact de_neg (by exact de_int)) (by exact da_cons (by exact de_cmp (od_eq cz.hu) (by exact de_var 1) (by exact de_int)) (by exact da_cons (by exact de_ty cd_str (y.free 96) (by exact da_cons (by exact de_var 1) (by exact da_nil))) (by exact da_cons (by exact de_int) (by exact da_cons (by exact de_int) (by exact da_cons (by exact de_int) (by exact da_cons (by exact de_int) (by exact da_cons (by exact de_int) (by exact da_nil))))))))))))) (by exact da_nil)))))) (by exact dss_nil)) (by exact dss_cons (by exact ds_if (by exact dt_val (by exact de_isi (T := "str") (by exact de_var 1) (y.free 88) (y.free 96) (by decide))) (by exact dss_one (by exact ds_ret (by exact de_cl (hk := by omega) c__law_some cz.tk cz.room (by exact da_cons (by exact de_var 0) (by exact da_cons (by exact de_frz (by exact dn_lst (by exact da_cons (by exact de_op od_add (by exact de_var 1) (by exact de_str)) (by exact da_cons (by exact de_sl (by exact de_var 1) (by exact dp_some (by exact de_int)) (by exact dp_none)) (by exact da_cons (by exact de_upper (by exact de_var 1)) (by exact da_cons (by exact de_str) (by exact da_cons (by exact de_str) (by exact da_cons (by exact de_str) (by exact da_cons (by exact de_str) (by exact da_cons (by exact de_op od_add (by exact de_var 1) (by exact de_str)) (by exact da_nil))))))))))) (by exact da_nil)))))) (by exact dss_nil)) (by exact dss_one (by exact ds_ret (by exact de_cl (hk := by omega) c__law_odd cz.tk cz.room (by exact da_cons (by exact de_var 0) (by exact da_nil)))))))) (by exact dss_nil)) (by exact dss_cons (by exact ds_set 3 (by exact de_cl (hk := by omega) c__law_take cz.tk cz.room (by exact da_cons (by exact de_var 0) (by exact da_cons (by exact de_bi cd_len (y.free 89) (by exact da_cons (by exact de_var 1) (by exact da_nil))) (by exact da_nil)))) sc__law_bent.nd) (by exact dss_one (by exact ds_ret (by exact de_op od_add (by exact de_op od_add (by exact de_sl (by exact de_var 1) (by exact dp_none) (by exact dp_some (by exact de_var 3))) (by exact de_tup (by exact da_cons (by exact de_cl (hk := by omega) cr cz.tk cz.room (by exact da_cons (by exact de_var 0) (by exact da_cons (by exact de_ix (by exact de_var 1) (by exact de_var 3)) (by exact da_cons (by exact de_op od_sub (by exact de_var 2) (by exact de_int)) (by exact da_nil))))) (by exact da_nil)))) (by exact de_sl (by exact de_var 1) (by exact dp_some (by exact de_op od_add (by exact de_var 3) (by exact de_int))) (by exact dp_none))))))
noncomputable def b__law_is_int : SM := sRt (eAnd (eIs ["int"] (eV 0)) (eNot (eIs ["bool"] (eV 0))))
noncomputable def m__law_is_int : List D → M D := fnB 1 1 b__law_is_int
noncomputable def q__law_is_int : { q : List Stmt × Scope // (defBody s__law_is_int, defScope s__law_is_int) = q } := by
  refine ⟨?q, ?h⟩
  case h =>
    conv =>
      lhs
      congr
      · whnf
      · whnf
theorem sc__law_is_int : FnScope ["thing"] ["thing"] q__law_is_int.val.2 := ⟨rfl, rfl, rfl, by decide +kernel, rfl, by decide +kernel, by decide +kernel⟩
theorem ok__law_is_int (y : Hy fa fn K mg)   : Dn P w K mg base 1 "_law_is_int" ["thing"] m__law_is_int := by
  obtain ⟨fd, F0⟩ := y.c.def_ 41 (d := d__law_is_int) rfl
  have F : FunD K d__law_is_int.name d__law_is_int.qual d__law_is_int.params q__law_is_int.val.1 q__law_is_int.val.2 [] [] (He.fAd K d__law_is_int.at_) fd := F0
  refine ⟨_, fd, y.glo 22, F.kp, FunD.bindsN F fun _ _ _ _ _ _ us hl => match us, hl with | [_], _ => rfl, fn_okD F sc__law_is_int fun cdv A outer s H E cz => ?_⟩
  exact dss_one (by exact ds_ret (by exact de_and (by exact de_isi (T := "int") (by exact de_var 0) (y.free 88) (y.free 87) (by decide)) (by exact de_one (by exact de_not (by exact de_isi (T := "bool") (by exact de_var 0) (y.free 88) (y.free 85) (by decide))))))
noncomputable def b__law_are_ints : SM := sRt (eAnd (eIs ["tuple"] (eV 0)) (eO eqD (eFrz (eLc (iSeq (eV 0)) (lN 1) (tNo (tV (eCall 1 m__law_is_int (aCons (eV 1) (aNil))))) (eC (.int 1)) [1])) (eFrz (lim (aNil)))))
noncomputable def m__law_are_ints : List D → M D := fnB 2 1 b__law_are_ints
noncomputable def q__law_are_ints : { q : List Stmt × Scope // (defBody s__law_are_ints, defScope s__law_are_ints) = q } := by
  refine ⟨?q, ?h⟩
  case h =>
    conv =>
      lhs
      congr
      · whnf
      · whnf
theorem sc__law_are_ints : FnScope ["thing", "one"] ["thing"] q__law_are_ints.val.2 := ⟨rfl, rfl, rfl, by decide +kernel, rfl, by decide +kernel, by decide +kernel⟩
theorem ok__law_are_ints (y : Hy fa fn K mg) (c__law_is_int : Dn P w K mg base 1 "_law_is_int" ["thing"] m__law_is_int)  : Dn P w K mg base 2 "_law_are_ints" ["thing"] m__law_are_ints := by
  obtain ⟨fd, F0⟩ := y.c.def_ 46 (d := d__law_are_ints) rfl
  have F : FunD K d__law_are_ints.name d__law_are_ints.qual d__law_are_ints.params q__law_are_ints.val.1 q__law_are_ints.val.2 [] [] (He.fAd K d__law_are_ints.at_) fd := F0
  refine ⟨_, fd, y.glo 27, F.kp, FunD.bindsN F fun _ _ _ _ _ _ us hl => match us, hl with | [_], _ => rfl, fn_okD F sc__law_are_ints fun cdv A outer s H E cz => ?_⟩
  exact dss_one (by exact ds_ret (by exact de_and (by exact de_isi (T := "tuple") (by exact de_var 0) (y.free 88) (y.free 99) (by decide)) (by exact de_one (by exact de_cmp (od_eq cz.hu) (by exact de_frz (by exact dn_lc (own := [("one", 1)]) (sl := [1]) cz.calm sc__law_are_ints.nd (by exact di_seq (by exact de_var 0)) (by refine blkOk_by ?_; (conv => lhs; arg 1; whnf); (conv => lhs; arg 2; whnf); first | decide +kernel | kernel_rfl | rfl) (by decide) (fun _ _ _ _ _ => by exact dl_name 1 sc__law_are_ints.nd) (fun _ _ _ _ _ => by exact dts_one (by exact dt_not (by exact dt_val (by exact de_cl c__law_is_int tkz cz.room (by exact da_cons (by exact de_var 1) (by exact da_nil)))))) (fun _ _ _ _ _ => by exact de_int))) (by exact de_frz (by exact dn_lst (by exact da_nil)))))))
noncomputable def b__law_rises : SM := sRt (eO eqD (eFrz (eLc (iZp (eV 0) (eSl (eV 0) (pSo (eC (.int 1))) (pNo))) (lT 2 (lCs (lN 1) (lCs (lN 2) (lNl)))) (tB' (eO geD (eV 1) (eV 2))) (eC (.int 1)) [1, 2])) (eFrz (lim (aNil))))
noncomputable def m__law_rises : List D → M D := fnB 3 1 b__law_rises
noncomputable def q__law_rises : { q : List Stmt × Scope // (defBody s__law_rises, defScope s__law_rises) = q } := by
  refine ⟨?q, ?h⟩
  case h =>
    conv =>
      lhs
      congr
      · whnf
      · whnf
theorem sc__law_rises : FnScope ["thing", "one", "other"] ["thing"] q__law_rises.val.2 := ⟨rfl, rfl, rfl, by decide +kernel, rfl, by decide +kernel, by decide +kernel⟩
theorem ok__law_rises (y : Hy fa fn K mg)   : Dn P w K mg base 1 "_law_rises" ["thing"] m__law_rises := by
  obtain ⟨fd, F0⟩ := y.c.def_ 47 (d := d__law_rises) rfl
  have F : FunD K d__law_rises.name d__law_rises.qual d__law_rises.params q__law_rises.val.1 q__law_rises.val.2 [] [] (He.fAd K d__law_rises.at_) fd := F0
  refine ⟨_, fd, y.glo 28, F.kp, FunD.bindsN F fun _ _ _ _ _ _ us hl => match us, hl with | [_], _ => rfl, fn_okD F sc__law_rises fun cdv A outer s H E cz => ?_⟩
  exact dss_one (by exact ds_ret (by exact de_cmp (od_eq cz.hu) (by exact de_frz (by exact dn_lc (own := [("one", 1), ("other", 2)]) (sl := ([1] ++ ([2] ++ []))) cz.calm sc__law_rises.nd (by exact di_zp (y.free 100) (by exact de_var 0) (by exact de_sl (by exact de_var 0) (by exact dp_some (by exact de_int)) (by exact dp_none))) (by refine blkOk_by ?_; (conv => lhs; arg 1; whnf); (conv => lhs; arg 2; whnf); first | decide +kernel | kernel_rfl | rfl) (by decide) (fun _ _ _ _ _ => by exact dl_tup cz.calm (by exact dls_cons (by exact dl_name 1 sc__law_rises.nd) (by exact dls_cons (by exact dl_name 2 sc__law_rises.nd) (by exact dls_nil)))) (fun _ _ _ _ _ => by exact dts_one (by exact dt_cmp (od_ge) (by exact de_var 1) (by exact de_var 2))) (fun _ _ _ _ _ => by exact de_int))) (by exact de_frz (by exact dn_lst (by exact da_nil)))))
noncomputable def b__law_are_zones : SM := sRt (eAnd (eCall 1 m__law_are_ints (aCons (eV 0) (aNil))) (eAnd (eO neD (eV 0) (eTup (aNil))) (eAnd (eCall 1 m__law_rises (aCons (eV 0) (aNil))) (eAnd (eO leD (eC (.int 1)) (eO ixD (eV 0) (eC (.int 0)))) (eO leD (eO ixD (eV 0) (eNg (eC (.int 1)))) (eC (.int 8)))))))
noncomputable def m__law_are_zones : List D → M D := fnB 1 1 b__law_are_zones
noncomputable def q__law_are_zones : { q : List Stmt × Scope // (defBody s__law_are_zones, defScope s__law_are_zones) = q } := by
  refine ⟨?q, ?h⟩
  case h =>
    conv =>
      lhs
      congr
      · whnf
      · whnf
theorem sc__law_are_zones : FnScope ["thing"] ["thing"] q__law_are_zones.val.2 := ⟨rfl, rfl, rfl, by decide +kernel, rfl, by decide +kernel, by decide +kernel⟩
theorem ok__law_are_zones (y : Hy fa fn K mg) (c__law_are_ints : Dn P w K mg base 2 "_law_are_ints" ["thing"] m__law_are_ints) (c__law_rises : Dn P w K mg base 1 "_law_rises" ["thing"] m__law_rises)  : Dn P w K mg base 3 "_law_are_zones" ["thing"] m__law_are_zones := by
  obtain ⟨fd, F0⟩ := y.c.def_ 48 (d := d__law_are_zones) rfl
  have F : FunD K d__law_are_zones.name d__law_are_zones.qual d__law_are_zones.params q__law_are_zones.val.1 q__law_are_zones.val.2 [] [] (He.fAd K d__law_are_zones.at_) fd := F0
  refine ⟨_, fd, y.glo 29, F.kp, FunD.bindsN F fun _ _ _ _ _ _ us hl => match us, hl with | [_], _ => rfl, fn_okD F sc__law_are_zones fun cdv A outer s H E cz => ?_⟩
  exact dss_one (by exact ds_ret (by exact de_and (by exact de_cl c__law_are_ints cz.tk cz.room (by exact da_cons (by exact de_var 0) (by exact da_nil))) (by exact de_and (by exact de_cmp (od_ne cz.hu) (by exact de_var 0) (by exact de_tup (by exact da_nil))) (by exact de_and (by exact de_cl c__law_rises cz.tk cz.room (by exact da_cons (by exact de_var 0) (by exact da_nil))) (by exact de_and (by exact de_cmp (od_le) (by exact de_int) (by exact de_ix (by exact de_var 0) (by exact de_int))) (by exact de_one (by exact de_cmp (od_le) (by exact de_ix (by exact de_var 0) (by exact de_neg (by exact de_int))) (by exact de_int))))))))
noncomputable def b__law_is_ride : SM := sSq (sIf (tIf' (tNo (tV (eIs ["tuple"] (eV 0)))) tTt (tIf' (tB' (eO neD (eB lenD (aCons (eV 0) (aNil))) (eC (.int 2)))) tTt (tNo (tV (eCall 1 m__law_are_zones (aCons (eO ixD (eV 0) (eC (.int 0))) (aNil))))))) (sRt (eC (.bl false))) (sNx)) (sRt (eAnd (eCall 1 m__law_is_int (aCons (eO ixD (eV 0) (eC (.int 1))) (aNil))) (eCh leD leD (eC (.int 0)) (eO ixD (eV 0) (eC (.int 1))) (eC (.int 1000000)))))
noncomputable def m__law_is_ride : List D → M D := fnB 1 1 b__law_is_ride
noncomputable def q__law_is_ride : { q : List Stmt × Scope // (defBody s__law_is_ride, defScope s__law_is_ride) = q } := by
  refine ⟨?q, ?h⟩
  case h =>
    conv =>
      lhs
      congr
      · whnf
      · whnf
theorem sc__law_is_ride : FnScope ["thing"] ["thing"] q__law_is_ride.val.2 := ⟨rfl, rfl, rfl, by decide +kernel, rfl, by decide +kernel, by decide +kernel⟩
theorem ok__law_is_ride (y : Hy fa fn K mg) (c__law_are_zones : Dn P w K mg base 3 "_law_are_zones" ["thing"] m__law_are_zones) (c__law_is_int : Dn P w K mg base 1 "_law_is_int" ["thing"] m__law_is_int)  : Dn P w K mg base 4 "_law_is_ride" ["thing"] m__law_is_ride := by
  obtain ⟨fd, F0⟩ := y.c.def_ 51 (d := d__law_is_ride) rfl
  have F : FunD K d__law_is_ride.name d__law_is_ride.qual d__law_is_ride.params q__law_is_ride.val.1 q__law_is_ride.val.2 [] [] (He.fAd K d__law_is_ride.at_) fd := F0
  refine ⟨_, fd, y.glo 32, F.kp, FunD.bindsN F fun _ _ _ _ _ _ us hl => match us, hl with | [_], _ => rfl, fn_okD F sc__law_is_ride fun cdv A outer s H E cz => ?_⟩
  exact dss_cons (by exact ds_if (by exact DW.dt (by exact dw_or (by exact dt_not (by exact dt_val (by exact de_isi (T := "tuple") (by exact de_var 0) (y.free 88) (y.free 99) (by decide)))) (by exact dw_or (by exact dt_cmp (od_ne cz.hu) (by exact de_bi cd_len (y.free 89) (by exact da_cons (by exact de_var 0) (by exact da_nil))) (by exact de_int)) (by exact dw_or1 (by exact dt_not (by exact dt_val (by exact de_cl c__law_are_zones cz.tk cz.room (by exact da_cons (by exact de_ix (by exact de_var 0) (by exact de_int)) (by exact da_nil))))))))) (by exact dss_one (by exact ds_ret (by exact de_bl))) (by exact dss_nil)) (by exact dss_one (by exact ds_ret (by exact de_and (by exact de_cl c__law_is_int cz.tk cz.room (by exact da_cons (by exact de_ix (by exact de_var 0) (by exact de_int)) (by exact da_nil))) (by exact de_one (by exact de_chain (od_le) (od_le) (by exact de_int) (by exact de_ix (by exact de_var 0) (by exact de_int)) (by exact de_int))))))
noncomputable def b__law_record_form : SM := sSq (sIf (tNo (tV (eIs ["tuple"] (eV 0)))) (sRt (eC (.bl false))) (sNx)) (sSq (sFor (iSeq (eV 0)) (gL (lN 1)) (sSq (sIf (tIf' (tNo (tV (eIs ["tuple"] (eV 1)))) tTt (tIf' (tB' (eO eqT (eV 1) (eTup (aNil)))) tTt (tNo (tV (eIs ["str"] (eO ixD (eV 1) (eC (.int 0)))))))) (sRt (eC (.bl false))) (sNx)) (sSq (sIf (tB' (eO eqD (eO ixD (eV 1) (eC (.int 0))) (eC (.str "ride")))) (sSet 2 (eAnd (eO eqD (eB lenD (aCons (eV 1) (aNil))) (eC (.int 3))) (eAnd (eCall 1 m__law_is_ride (aCons (eO ixD (eV 1) (eC (.int 1))) (aNil))) (eCall 1 m__law_is_int (aCons (eO ixD (eV 1) (eC (.int 2))) (aNil)))))) (sIf (tB' (eO eqD (eO ixD (eV 1) (eC (.int 0))) (eC (.str "count")))) (sSet 2 (eAnd (eO eqD (eB lenD (aCons (eV 1) (aNil))) (eC (.int 2))) (eCall 1 m__law_is_int (aCons (eO ixD (eV 1) (eC (.int 1))) (aNil))))) (sSet 2 (eO eqT (eV 1) (eTup (aCons (eC (.str "day")) (aNil))))))) (sIf (tNo (tV (eV 2))) (sRt (eC (.bl false))) (sNx))))) (sRt (eC (.bl true))))
noncomputable def m__law_record_form : List D → M D := fnB 3 1 b__law_record_form
noncomputable def q__law_record_form : { q : List Stmt × Scope // (defBody s__law_record_form, defScope s__law_record_form) = q } := by
  refine ⟨?q, ?h⟩
  case h =>
    conv =>
      lhs
      congr
      · whnf
      · whnf
theorem sc__law_record_form : FnScope ["thing", "line", "is_so"] ["thing"] q__law_record_form.val.2 := ⟨rfl, rfl, rfl, by decide +kernel, rfl, by decide +kernel, by decide +kernel⟩
theorem ok__law_record_form (y : Hy fa fn K mg) (c__law_is_ride : Dn P w K mg base 4 "_law_is_ride" ["thing"] m__law_is_ride) (c__law_is_int : Dn P w K mg base 1 "_law_is_int" ["thing"] m__law_is_int)  : Dn P w K mg base 5 "_law_record_form" ["thing"] m__law_record_form := by
  obtain ⟨fd, F0⟩ := y.c.def_ 52 (d := d__law_record_form) rfl
  have F : FunD K d__law_record_form.name d__law_record_form.qual d__law_record_form.params q__law_record_form.val.1 q__law_record_form.val.2 [] [] (He.fAd K d__law_record_form.at_) fd := F0
  refine ⟨_, fd, y.glo 33, F.kp, FunD.bindsN F fun _ _ _ _ _ _ us hl => match us, hl with | [_], _ => rfl, fn_okD F sc__law_record_form fun cdv A outer s H E cz => ?_⟩
  exact dss_cons (by exact ds_if (by exact dt_not (by exact dt_val (by exact de_isi (T := "tuple") (by exact de_var 0) (y.free 88) (y.free 99) (by decide)))) (by exact dss_one (by exact ds_ret (by exact de_bl))) (by exact dss_nil)) (by exact dss_cons (by exact ds_for cz.po cz.calm (by exact di_seq (by exact de_var 0)) (DL.dg (by exact dl_name 1 sc__law_record_form.nd)) (by exact dss_cons (by exact ds_if (by exact DW.dt (by exact dw_or (by exact dt_not (by exact dt_val (by exact de_isi (T := "tuple") (by exact de_var 1) (y.free 88) (y.free 99) (by decide)))) (by exact dw_or (by exact dt_cmp (od_eqT cz.hu) (by exact de_var 1) (by exact de_tup (by exact da_nil))) (by exact dw_or1 (by exact dt_not (by exact dt_val (by exact de_isi (T := "str") (by exact de_ix (by exact de_var 1) (by exact de_int)) (y.free 88) (y.free 96) (by decide)))))))) (by exact dss_one (by exact ds_ret (by exact de_bl))) (by exact dss_nil)) (by exact dss_cons (by exact ds_if (by exact dt_cmp (od_eq cz.hu) (by exact de_ix (by exact de_var 1) (by exact de_int)) (by exact de_str)) (by exact dss_one (by exact ds_set 2 (by exact de_and (by exact de_cmp (od_eq cz.hu) (by exact de_bi cd_len (y.free 89) (by exact da_cons (by exact de_var 1) (by exact da_nil))) (by exact de_int)) (by exact de_and (by exact de_cl c__law_is_ride cz.tk cz.room (by exact da_cons (by exact de_ix (by exact de_var 1) (by exact de_int)) (by exact da_nil))) (by exact de_one (by exact de_cl c__law_is_int cz.tk cz.room (by exact da_cons (by exact de_ix (by exact de_var 1) (by exact de_int)) (by exact da_nil)))))) sc__law_record_form.nd)) (by exact dss_one (by exact ds_if (by exact dt_cmp (od_eq cz.hu) (by exact de_ix (by exact de_var 1) (by exact de_int)) (by exact de_str)) (by exact dss_one (by exact ds_set 2 (by exact de_and (by exact de_cmp (od_eq cz.hu) (by exact de_bi cd_len (y.free 89) (by exact da_cons (by exact de_var 1) (by exact da_nil))) (by exact de_int)) (by exact de_one (by exact de_cl c__law_is_int cz.tk cz.room (by exact da_cons (by exact de_ix (by exact de_var 1) (by exact de_int)) (by exact da_nil))))) sc__law_record_form.nd)) (by exact dss_one (by exact ds_set 2 (by exact de_cmp (od_eqT cz.hu) (by exact de_var 1) (by exact de_tup (by exact da_cons (by exact de_str) (by exact da_nil)))) sc__law_record_form.nd))))) (by exact dss_one (by exact ds_if (by exact dt_not (by exact dt_val (by exact de_var 2))) (by exact dss_one (by exact ds_ret (by exact de_bl))) (by exact dss_nil)))))) (by exact dss_one (by exact ds_ret (by exact de_bl))))
noncomputable def b__law_alike : SM := sSq (sPar 2 3 (eNew (lim (aCons (eTup (aCons (eV 0) (aCons (eV 1) (aNil)))) (aNil)))) (eC (.int 0))) (sSq (sWhile (tB' (eO ltD (eV 3) (eB lenD (aCons (eV 2) (aNil))))) (sSq (sAs (eO ixD (eV 2) (eV 3)) (gTp 2 (gCs (gN 4) (gCs (gN 5) (gNl))))) (sSq (sAug 3 iaddD (eC (.int 1))) (sSq (sIf (tIf' (tB' (eO neD (eIs ["bool"] (eV 4)) (eIs ["bool"] (eV 5)))) tTt (tB' (eO neD (eIs ["str"] (eV 4)) (eIs ["str"] (eV 5))))) (sRt (eC (.bl false))) (sNx)) (sSq (sIf (tB' (eO neD (eIs ["tuple", "list"] (eV 4)) (eIs ["tuple", "list"] (eV 5)))) (sRt (eC (.bl false))) (sNx)) (sIf (tV (eIs ["tuple", "list"] (eV 4))) (sSq (sIf (tIf' (tB' (eO neD (eIs ["tuple"] (eV 4)) (eIs ["tuple"] (eV 5)))) tTt (tB' (eO neD (eB lenD (aCons (eV 4) (aNil))) (eB lenD (aCons (eV 5) (aNil)))))) (sRt (eC (.bl false))) (sNx)) (sEx (eMt1 extendF (eV 2) (aCons (eFrz (zpL (aCons (eV 4) (aCons (eV 5) (aNil))))) (aNil))))) (sIf (tB' (eO neD (eV 4) (eV 5))) (sRt (eC (.bl false))) (sNx)))))))) (sRt (eC (.bl true))))
noncomputable def m__law_alike : List D → M D := fnB 6 2 b__law_alike
noncomputable def q__law_alike : { q : List Stmt × Scope // (defBody s__law_alike, defScope s__law_alike) = q } := by
  refine ⟨?q, ?h⟩
  case h =>
    conv =>
      lhs
      congr
      · whnf
      · whnf
theorem sc__law_alike : FnScope ["found", "due", "pairs", "at", "one", "other"] ["found", "due"] q__law_alike.val.2 := ⟨rfl, rfl, rfl, by decide +kernel, rfl, by decide +kernel, by decide +kernel⟩
theorem ok__law_alike (y : Hy fa fn K mg)   : Dn P w K mg base 1 "_law_alike" ["found", "due"] m__law_alike := by
  obtain ⟨fd, F0⟩ := y.c.def_ 40 (d := d__law_alike) rfl
  have F : FunD K d__law_alike.name d__law_alike.qual d__law_alike.params q__law_alike.val.1 q__law_alike.val.2 [] [] (He.fAd K d__law_alike.at_) fd := F0
  refine ⟨_, fd, y.glo 21, F.kp, FunD.bindsN F fun _ _ _ _ _ _ us hl => match us, hl with | [_, _], _ => rfl, fn_okD F sc__law_alike fun cdv A outer s H E cz => ?_⟩
  exact dss_cons (by exact ds_par 2 3 (by exact de_new (by exact dn_lst (by exact da_cons (by exact de_tup (by exact da_cons (by exact de_var 0) (by exact da_cons (by exact de_var 1) (by exact da_nil)))) (by exact da_nil)))) (by exact de_int) cz.calm sc__law_alike.nd) (by exact dss_cons (by exact ds_while cz.po (by exact dt_cmp (od_lt) (by exact de_var 3) (by exact de_bi cd_len (y.free 89) (by exact da_cons (by exact de_var 2) (by exact da_nil)))) (by exact dss_cons (by exact ds_asg (by exact de_ix (by exact de_var 2) (by exact de_var 3)) (by exact dg_tup cz.calm (by exact dgs_cons (by exact dg_name 4 sc__law_alike.nd) (by exact dgs_cons (by exact dg_name 5 sc__law_alike.nd) (by exact dgs_nil))))) (by exact dss_cons (by exact ds_aug 3 od_iadd (by exact de_int) sc__law_alike.nd) (by exact dss_cons (by exact ds_if (by exact DW.dt (by exact dw_or (by exact dt_cmp (od_ne cz.hu) (by exact de_isi (T := "bool") (by exact de_var 4) (y.free 88) (y.free 85) (by decide)) (by exact de_isi (T := "bool") (by exact de_var 5) (y.free 88) (y.free 85) (by decide))) (by exact dw_or1 (by exact dt_cmp (od_ne cz.hu) (by exact de_isi (T := "str") (by exact de_var 4) (y.free 88) (y.free 96) (by decide)) (by exact de_isi (T := "str") (by exact de_var 5) (y.free 88) (y.free 96) (by decide)))))) (by exact dss_one (by exact ds_ret (by exact de_bl))) (by exact dss_nil)) (by exact dss_cons (by exact ds_if (by exact dt_cmp (od_ne cz.hu) (by exact de_isi2 (T := "tuple") (T2 := "list") (by exact de_var 4) (y.free 88) (y.free 99) (y.free 90) (by decide) (by decide)) (by exact de_isi2 (T := "tuple") (T2 := "list") (by exact de_var 5) (y.free 88) (y.free 99) (y.free 90) (by decide) (by decide))) (by exact dss_one (by exact ds_ret (by exact de_bl))) (by exact dss_nil)) (by exact dss_one (by exact ds_if (by exact dt_val (by exact de_isi2 (T := "tuple") (T2 := "list") (by exact de_var 4) (y.free 88) (y.free 99) (y.free 90) (by decide) (by decide))) (by exact dss_cons (by exact ds_if (by exact DW.dt (by exact dw_or (by exact dt_cmp (od_ne cz.hu) (by exact de_isi (T := "tuple") (by exact de_var 4) (y.free 88) (y.free 99) (by decide)) (by exact de_isi (T := "tuple") (by exact de_var 5) (y.free 88) (y.free 99) (by decide))) (by exact dw_or1 (by exact dt_cmp (od_ne cz.hu) (by exact de_bi cd_len (y.free 89) (by exact da_cons (by exact de_var 4) (by exact da_nil))) (by exact de_bi cd_len (y.free 89) (by exact da_cons (by exact de_var 5) (by exact da_nil))))))) (by exact dss_one (by exact ds_ret (by exact de_bl))) (by exact dss_nil)) (by exact dss_one (by exact ds_expr (by exact de_mt PySem.F.slot_list_extend PySem.F.type_list_extend ml_extend (by exact de_var 2) (by exact da_cons (by exact de_frz (by exact dn_zip cz.calm (y.free 90) (y.free 100) (by exact da_cons (by exact de_var 4) (by exact da_cons (by exact de_var 5) (by exact da_nil))))) (by exact da_nil)))))) (by exact dss_one (by exact ds_if (by exact dt_cmp (od_ne cz.hu) (by exact de_var 4) (by exact de_var 5)) (by exact dss_one (by exact ds_ret (by exact de_bl))) (by exact dss_nil)))))))))) (by exact dss_one (by exact ds_ret (by exact de_bl))))
noncomputable def b_is_integer : SM := sRt (eAnd (eIs ["int"] (eV 0)) (eNot (eIs ["bool"] (eV 0))))
noncomputable def m_is_integer : List D → M D := fnB 1 1 b_is_integer
noncomputable def q_is_integer : { q : List Stmt × Scope // (defBody s_is_integer, defScope s_is_integer) = q } := by
  refine ⟨?q, ?h⟩
  case h =>
    conv =>
      lhs
      congr
      · whnf
      · whnf
theorem sc_is_integer : FnScope ["thing"] ["thing"] q_is_integer.val.2 := ⟨rfl, rfl, rfl, by decide +kernel, rfl, by decide +kernel, by decide +kernel⟩
theorem ok_is_integer (y : Hy fa fn K mg)   : Dn P w K mg base 1 "is_integer" ["thing"] m_is_integer := by
  obtain ⟨fd, F0⟩ := y.c.def_ 1 (d := d_is_integer) rfl
  have F : FunD K d_is_integer.name d_is_integer.qual d_is_integer.params q_is_integer.val.1 q_is_integer.val.2 [] [] (He.fAd K d_is_integer.at_) fd := F0
  refine ⟨_, fd, y.glo 1, F.kp, FunD.bindsN F fun _ _ _ _ _ _ us hl => match us, hl with | [_], _ => rfl, fn_okD F sc_is_integer fun cdv A outer s H E cz => ?_⟩
  exact dss_one (by exact ds_ret (by exact de_and (by exact de_isi (T := "int") (by exact de_var 0) (y.free 88) (y.free 87) (by decide)) (by exact de_one (by exact de_not (by exact de_isi (T := "bool") (by exact de_var 0) (y.free 88) (y.free 85) (by decide))))))
noncomputable def b_are_integers : SM := sRt (eAnd (eIs ["tuple"] (eV 0)) (eB allD (aCons (eFrz (eLc (iSeq (eV 0)) (lN 1) (tTt) (eCall 1 m_is_integer (aCons (eV 1) (aNil))) [1])) (aNil))))
noncomputable def m_are_integers : List D → M D := fnB 2 1 b_are_integers
noncomputable def q_are_integers : { q : List Stmt × Scope // (defBody s_are_integers, defScope s_are_integers) = q } := by
  refine ⟨?q, ?h⟩
  case h =>
    conv =>
      lhs
      congr
      · whnf
      · whnf
theorem sc_are_integers : FnScope ["thing", "one"] ["thing"] q_are_integers.val.2 := ⟨rfl, rfl, rfl, by decide +kernel, rfl, by decide +kernel, by decide +kernel⟩
theorem ok_are_integers (y : Hy fa fn K mg) (c_is_integer : Dn P w K mg base 1 "is_integer" ["thing"] m_is_integer)  : Dn P w K mg base 2 "are_integers" ["thing"] m_are_integers := by
  obtain ⟨fd, F0⟩ := y.c.def_ 3 (d := d_are_integers) rfl
  have F : FunD K d_are_integers.name d_are_integers.qual d_are_integers.params q_are_integers.val.1 q_are_integers.val.2 [] [] (He.fAd K d_are_integers.at_) fd := F0
  refine ⟨_, fd, y.glo 3, F.kp, FunD.bindsN F fun _ _ _ _ _ _ us hl => match us, hl with | [_], _ => rfl, fn_okD F sc_are_integers fun cdv A outer s H E cz => ?_⟩
  exact dss_one (by exact ds_ret (by exact de_and (by exact de_isi (T := "tuple") (by exact de_var 0) (y.free 88) (y.free 99) (by decide)) (by exact de_one (by exact de_bi (cd_all cz.calm) (y.free 84) (by exact da_cons (by exact de_frz (by exact dn_lc (own := [("one", 1)]) (sl := [1]) cz.calm sc_are_integers.nd (by exact di_seq (by exact de_var 0)) (by refine blkOk_by ?_; (conv => lhs; arg 1; whnf); (conv => lhs; arg 2; whnf); first | decide +kernel | kernel_rfl | rfl) (by decide) (fun _ _ _ _ _ => by exact dl_name 1 sc_are_integers.nd) (fun _ _ _ _ _ => by exact dts_nil) (fun _ _ _ _ _ => by exact de_cl c_is_integer tkz cz.room (by exact da_cons (by exact de_var 1) (by exact da_nil))))) (by exact da_nil))))))
noncomputable def b_are_rising : SM := sRt (eAnd (eCall 1 m_are_integers (aCons (eV 0) (aNil))) (eB allD (aCons (eFrz (eLc (iZp (eV 0) (eSl (eV 0) (pSo (eC (.int 1))) (pNo))) (lT 2 (lCs (lN 1) (lCs (lN 2) (lNl)))) (tTt) (eO ltD (eV 1) (eV 2)) [1, 2])) (aNil))))
noncomputable def m_are_rising : List D → M D := fnB 3 1 b_are_rising
noncomputable def q_are_rising : { q : List Stmt × Scope // (defBody s_are_rising, defScope s_are_rising) = q } := by
  refine ⟨?q, ?h⟩
  case h =>
    conv =>
      lhs
      congr
      · whnf
      · whnf
theorem sc_are_rising : FnScope ["thing", "one", "other"] ["thing"] q_are_rising.val.2 := ⟨rfl, rfl, rfl, by decide +kernel, rfl, by decide +kernel, by decide +kernel⟩
theorem ok_are_rising (y : Hy fa fn K mg) (c_are_integers : Dn P w K mg base 2 "are_integers" ["thing"] m_are_integers)  : Dn P w K mg base 3 "are_rising" ["thing"] m_are_rising := by
  obtain ⟨fd, F0⟩ := y.c.def_ 4 (d := d_are_rising) rfl
  have F : FunD K d_are_rising.name d_are_rising.qual d_are_rising.params q_are_rising.val.1 q_are_rising.val.2 [] [] (He.fAd K d_are_rising.at_) fd := F0
  refine ⟨_, fd, y.glo 4, F.kp, FunD.bindsN F fun _ _ _ _ _ _ us hl => match us, hl with | [_], _ => rfl, fn_okD F sc_are_rising fun cdv A outer s H E cz => ?_⟩
  exact dss_one (by exact ds_ret (by exact de_and (by exact de_cl c_are_integers cz.tk cz.room (by exact da_cons (by exact de_var 0) (by exact da_nil))) (by exact de_one (by exact de_bi (cd_all cz.calm) (y.free 84) (by exact da_cons (by exact de_frz (by exact dn_lc (own := [("one", 1), ("other", 2)]) (sl := ([1] ++ ([2] ++ []))) cz.calm sc_are_rising.nd (by exact di_zp (y.free 100) (by exact de_var 0) (by exact de_sl (by exact de_var 0) (by exact dp_some (by exact de_int)) (by exact dp_none))) (by refine blkOk_by ?_; (conv => lhs; arg 1; whnf); (conv => lhs; arg 2; whnf); first | decide +kernel | kernel_rfl | rfl) (by decide) (fun _ _ _ _ _ => by exact dl_tup cz.calm (by exact dls_cons (by exact dl_name 1 sc_are_rising.nd) (by exact dls_cons (by exact dl_name 2 sc_are_rising.nd) (by exact dls_nil)))) (fun _ _ _ _ _ => by exact dts_nil) (fun _ _ _ _ _ => by exact de_cmp (od_lt) (by exact de_var 1) (by exact de_var 2)))) (by exact da_nil))))))
noncomputable def b_are_zones : SM := sRt (eAnd (eCall 1 m_are_rising (aCons (eV 0) (aNil))) (eAnd (eO neD (eV 0) (eTup (aNil))) (eAnd (eO leD (eC (.int 1)) (eO ixD (eV 0) (eC (.int 0)))) (eO leD (eO ixD (eV 0) (eNg (eC (.int 1)))) (eC (.int 8))))))
noncomputable def m_are_zones : List D → M D := fnB 1 1 b_are_zones
noncomputable def q_are_zones : { q : List Stmt × Scope // (defBody s_are_zones, defScope s_are_zones) = q } := by
  refine ⟨?q, ?h⟩
  case h =>
    conv =>
      lhs
      congr
      · whnf
      · whnf
theorem sc_are_zones : FnScope ["thing"] ["thing"] q_are_zones.val.2 := ⟨rfl, rfl, rfl, by decide +kernel, rfl, by decide +kernel, by decide +kernel⟩
theorem ok_are_zones (y : Hy fa fn K mg) (c_are_rising : Dn P w K mg base 3 "are_rising" ["thing"] m_are_rising)  : Dn P w K mg base 4 "are_zones" ["thing"] m_are_zones := by
  obtain ⟨fd, F0⟩ := y.c.def_ 5 (d := d_are_zones) rfl
  have F : FunD K d_are_zones.name d_are_zones.qual d_are_zones.params q_are_zones.val.1 q_are_zones.val.2 [] [] (He.fAd K d_are_zones.at_) fd := F0
  refine ⟨_, fd, y.glo 5, F.kp, FunD.bindsN F fun _ _ _ _ _ _ us hl => match us, hl with | [_], _ => rfl, fn_okD F sc_are_zones fun cdv A outer s H E cz => ?_⟩
  exact dss_one (by exact ds_ret (by exact de_and (by exact de_cl c_are_rising cz.tk cz.room (by exact da_cons (by exact de_var 0) (by exact da_nil))) (by exact de_and (by exact de_cmp (od_ne cz.hu) (by exact de_var 0) (by exact de_tup (by exact da_nil))) (by exact de_and (by exact de_cmp (od_le) (by exact de_int) (by exact de_ix (by exact de_var 0) (by exact de_int))) (by exact de_one (by exact de_cmp (od_le) (by exact de_ix (by exact de_var 0) (by exact de_neg (by exact de_int))) (by exact de_gint (y.int 73))))))))
noncomputable def b_is_within : SM := sRt (eAnd (eCall 1 m_is_integer (aCons (eV 0) (aNil))) (eCh leD leD (eV 1) (eV 0) (eV 2)))
noncomputable def m_is_within : List D → M D := fnB 3 3 b_is_within
noncomputable def q_is_within : { q : List Stmt × Scope // (defBody s_is_within, defScope s_is_within) = q } := by
  refine ⟨?q, ?h⟩
  case h =>
    conv =>
      lhs
      congr
      · whnf
      · whnf
theorem sc_is_within : FnScope ["thing", "least", "most"] ["thing", "least", "most"] q_is_within.val.2 := ⟨rfl, rfl, rfl, by decide +kernel, rfl, by decide +kernel, by decide +kernel⟩
theorem ok_is_within (y : Hy fa fn K mg) (c_is_integer : Dn P w K mg base 1 "is_integer" ["thing"] m_is_integer)  : Dn P w K mg base 2 "is_within" ["thing", "least", "most"] m_is_within := by
  obtain ⟨fd, F0⟩ := y.c.def_ 2 (d := d_is_within) rfl
  have F : FunD K d_is_within.name d_is_within.qual d_is_within.params q_is_within.val.1 q_is_within.val.2 [] [] (He.fAd K d_is_within.at_) fd := F0
  refine ⟨_, fd, y.glo 2, F.kp, FunD.bindsN F fun _ _ _ _ _ _ us hl => match us, hl with | [_, _, _], _ => rfl, fn_okD F sc_is_within fun cdv A outer s H E cz => ?_⟩
  exact dss_one (by exact ds_ret (by exact de_and (by exact de_cl c_is_integer cz.tk cz.room (by exact da_cons (by exact de_var 0) (by exact da_nil))) (by exact de_one (by exact de_chain (od_le) (od_le) (by exact de_var 1) (by exact de_var 0) (by exact de_var 2)))))
noncomputable def b_row_fault : SM := sSq (sIf (tIf' (tNo (tV (eIs ["tuple"] (eV 0)))) tTt (tB' (eO neD (eB lenD (aCons (eV 0) (aNil))) (eC (.int 2))))) (sRt (eC (.str "form"))) (sNx)) (sSq (sIf (tNo (tV (eCall 1 m_are_zones (aCons (eO ixD (eV 0) (eC (.int 0))) (aNil))))) (sRt (eC (.str "zones"))) (sNx)) (sRt (tIf' (tV (eCall 3 m_is_within (aCons (eO ixD (eV 0) (eC (.int 1))) (aCons (eC (.int 0)) (aCons (eV 1) (aNil)))))) (eC .non) (eC (.str "price")))))
noncomputable def m_row_fault : List D → M D := fnB 2 2 b_row_fault
noncomputable def q_row_fault : { q : List Stmt × Scope // (defBody s_row_fault, defScope s_row_fault) = q } := by
  refine ⟨?q, ?h⟩
  case h =>
    conv =>
      lhs
      congr
      · whnf
      · whnf
theorem sc_row_fault : FnScope ["thing", "most"] ["thing", "most"] q_row_fault.val.2 := ⟨rfl, rfl, rfl, by decide +kernel, rfl, by decide +kernel, by decide +kernel⟩
theorem ok_row_fault (y : Hy fa fn K mg) (c_are_zones : Dn P w K mg base 4 "are_zones" ["thing"] m_are_zones) (c_is_within : Dn P w K mg base 2 "is_within" ["thing", "least", "most"] m_is_within)  : Dn P w K mg base 5 "row_fault" ["thing", "most"] m_row_fault := by
  obtain ⟨fd, F0⟩ := y.c.def_ 6 (d := d_row_fault) rfl
  have F : FunD K d_row_fault.name d_row_fault.qual d_row_fault.params q_row_fault.val.1 q_row_fault.val.2 [] [] (He.fAd K d_row_fault.at_) fd := F0
  refine ⟨_, fd, y.glo 6, F.kp, FunD.bindsN F fun _ _ _ _ _ _ us hl => match us, hl with | [_, _], _ => rfl, fn_okD F sc_row_fault fun cdv A outer s H E cz => ?_⟩
  exact dss_cons (by exact ds_if (by exact DW.dt (by exact dw_or (by exact dt_not (by exact dt_val (by exact de_isi (T := "tuple") (by exact de_var 0) (y.free 88) (y.free 99) (by decide)))) (by exact dw_or1 (by exact dt_cmp (od_ne cz.hu) (by exact de_bi cd_len (y.free 89) (by exact da_cons (by exact de_var 0) (by exact da_nil))) (by exact de_int))))) (by exact dss_one (by exact ds_ret (by exact de_str))) (by exact dss_nil)) (by exact dss_cons (by exact ds_if (by exact dt_not (by exact dt_val (by exact de_cl c_are_zones cz.tk cz.room (by exact da_cons (by exact de_ix (by exact de_var 0) (by exact de_int)) (by exact da_nil))))) (by exact dss_one (by exact ds_ret (by exact de_str))) (by exact dss_nil)) (by exact dss_one (by exact ds_ret (by exact de_ifExp (by exact dt_val (by exact de_cl c_is_within cz.tk cz.room (by exact da_cons (by exact de_ix (by exact de_var 0) (by exact de_int)) (by exact da_cons (by exact de_int) (by exact da_cons (by exact de_var 1) (by exact da_nil)))))) (by exact de_non) (by exact de_str)))))
noncomputable def b_is_line : SM := sSq (sIf (tIf' (tNo (tV (eIs ["tuple"] (eV 0)))) tTt (tIf' (tNo (tB' (eCh leD leD (eC (.int 1)) (eB lenD (aCons (eV 0) (aNil))) (eC (.int 3))))) tTt (tNo (tV (eIs ["str"] (eO ixD (eV 0) (eC (.int 0)))))))) (sRt (eC (.bl false))) (sNx)) (sSq (sIf (tB' (eO eqD (eB lenD (aCons (eV 0) (aNil))) (eC (.int 1)))) (sRt (eO eqD (eO ixD (eV 0) (eC (.int 0))) (eC (.str "day")))) (sNx)) (sSq (sIf (tNo (tV (eCall 1 m_is_integer (aCons (eO ixD (eV 0) (eNg (eC (.int 1)))) (aNil))))) (sRt (eC (.bl false))) (sNx)) (sSq (sIf (tB' (eO eqD (eB lenD (aCons (eV 0) (aNil))) (eC (.int 2)))) (sRt (eO eqD (eO ixD (eV 0) (eC (.int 0))) (eC (.str "count")))) (sNx)) (sRt (eAnd (eO eqD (eO ixD (eV 0) (eC (.int 0))) (eC (.str "ride"))) (eO isD (eCall 2 m_row_fault (aCons (eO ixD (eV 0) (eC (.int 1))) (aCons (eC (.int 1000000)) (aNil)))) (eC .non)))))))
noncomputable def m_is_line : List D → M D := fnB 1 1 b_is_line
noncomputable def q_is_line : { q : List Stmt × Scope // (defBody s_is_line, defScope s_is_line) = q } := by
  refine ⟨?q, ?h⟩
  case h =>
    conv =>
      lhs
      congr
      · whnf
      · whnf
theorem sc_is_line : FnScope ["thing"] ["thing"] q_is_line.val.2 := ⟨rfl, rfl, rfl, by decide +kernel, rfl, by decide +kernel, by decide +kernel⟩
theorem ok_is_line (y : Hy fa fn K mg) (c_is_integer : Dn P w K mg base 1 "is_integer" ["thing"] m_is_integer) (c_row_fault : Dn P w K mg base 5 "row_fault" ["thing", "most"] m_row_fault)  : Dn P w K mg base 6 "is_line" ["thing"] m_is_line := by
  obtain ⟨fd, F0⟩ := y.c.def_ 11 (d := d_is_line) rfl
  have F : FunD K d_is_line.name d_is_line.qual d_is_line.params q_is_line.val.1 q_is_line.val.2 [] [] (He.fAd K d_is_line.at_) fd := F0
  refine ⟨_, fd, y.glo 11, F.kp, FunD.bindsN F fun _ _ _ _ _ _ us hl => match us, hl with | [_], _ => rfl, fn_okD F sc_is_line fun cdv A outer s H E cz => ?_⟩
  exact dss_cons (by exact ds_if (by exact DW.dt (by exact dw_or (by exact dt_not (by exact dt_val (by exact de_isi (T := "tuple") (by exact de_var 0) (y.free 88) (y.free 99) (by decide)))) (by exact dw_or (by exact dt_not (by exact dt_chain (od_le) (od_le) (by exact de_int) (by exact de_bi cd_len (y.free 89) (by exact da_cons (by exact de_var 0) (by exact da_nil))) (by exact de_int))) (by exact dw_or1 (by exact dt_not (by exact dt_val (by exact de_isi (T := "str") (by exact de_ix (by exact de_var 0) (by exact de_int)) (y.free 88) (y.free 96) (by decide)))))))) (by exact dss_one (by exact ds_ret (by exact de_bl))) (by exact dss_nil)) (by exact dss_cons (by exact ds_if (by exact dt_cmp (od_eq cz.hu) (by exact de_bi cd_len (y.free 89) (by exact da_cons (by exact de_var 0) (by exact da_nil))) (by exact de_int)) (by exact dss_one (by exact ds_ret (by exact de_cmp (od_eq cz.hu) (by exact de_ix (by exact de_var 0) (by exact de_int)) (by exact de_gstr (y.str 79))))) (by exact dss_nil)) (by exact dss_cons (by exact ds_if (by exact dt_not (by exact dt_val (by exact de_cl c_is_integer cz.tk cz.room (by exact da_cons (by exact de_ix (by exact de_var 0) (by exact de_neg (by exact de_int))) (by exact da_nil))))) (by exact dss_one (by exact ds_ret (by exact de_bl))) (by exact dss_nil)) (by exact dss_cons (by exact ds_if (by exact dt_cmp (od_eq cz.hu) (by exact de_bi cd_len (y.free 89) (by exact da_cons (by exact de_var 0) (by exact da_nil))) (by exact de_int)) (by exact dss_one (by exact ds_ret (by exact de_cmp (od_eq cz.hu) (by exact de_ix (by exact de_var 0) (by exact de_int)) (by exact de_gstr (y.str 80))))) (by exact dss_nil)) (by exact dss_one (by exact ds_ret (by exact de_and (by exact de_cmp (od_eq cz.hu) (by exact de_ix (by exact de_var 0) (by exact de_int)) (by exact de_gstr (y.str 78))) (by exact de_one (by exact de_cmp (od_is) (by exact de_cl c_row_fault cz.tk cz.room (by exact da_cons (by exact de_ix (by exact de_var 0) (by exact de_int)) (by exact da_cons (by exact de_gint (y.int 74)) (by exact da_nil)))) (by exact de_non)))))))))
noncomputable def b_checked_record : SM := sSq (sIf (tIf' (tV (eIs ["tuple"] (eV 0))) (tB' (eO gtD (eB lenD (aCons (eV 0) (aNil))) (eC (.int 200)))) tFf) (sRs "BadLog" ["fault"] (aCons (eC (.str "many")) (aNil))) (sNx)) (sSq (sIf (tIf' (tNo (tV (eIs ["tuple"] (eV 0)))) tTt (tNo (tV (eB allD (aCons (eFrz (eLc (iSeq (eV 0)) (lN 1) (tTt) (eCall 1 m_is_line (aCons (eV 1) (aNil))) [1])) (aNil)))))) (sRs "BadLog" ["fault"] (aCons (eC (.str "form")) (aNil))) (sNx)) (sRt (eV 0)))
noncomputable def m_checked_record : List D → M D := fnB 2 1 b_checked_record
noncomputable def q_checked_record : { q : List Stmt × Scope // (defBody s_checked_record, defScope s_checked_record) = q } := by
  refine ⟨?q, ?h⟩
  case h =>
    conv =>
      lhs
      congr
      · whnf
      · whnf
theorem sc_checked_record : FnScope ["thing", "line"] ["thing"] q_checked_record.val.2 := ⟨rfl, rfl, rfl, by decide +kernel, rfl, by decide +kernel, by decide +kernel⟩
theorem ok_checked_record (y : Hy fa fn K mg) (c_is_line : Dn P w K mg base 6 "is_line" ["thing"] m_is_line) (t_BadLog : DX P w K mg base file x_BadLog)  : Dn P w K mg base 7 "checked_record" ["thing"] m_checked_record := by
  obtain ⟨fd, F0⟩ := y.c.def_ 12 (d := d_checked_record) rfl
  have F : FunD K d_checked_record.name d_checked_record.qual d_checked_record.params q_checked_record.val.1 q_checked_record.val.2 [] [] (He.fAd K d_checked_record.at_) fd := F0
  refine ⟨_, fd, y.glo 12, F.kp, FunD.bindsN F fun _ _ _ _ _ _ us hl => match us, hl with | [_], _ => rfl, fn_okD F sc_checked_record fun cdv A outer s H E cz => ?_⟩
  exact dss_cons (by exact ds_if (by exact DW.dt (by exact dw_and (by exact dt_val (by exact de_isi (T := "tuple") (by exact de_var 0) (y.free 88) (y.free 99) (by decide))) (by exact dw_and1 (by exact dt_cmp (od_gt) (by exact de_bi cd_len (y.free 89) (by exact da_cons (by exact de_var 0) (by exact da_nil))) (by exact de_gint (y.int 77)))))) (by exact dss_one (by exact ds_raise2 t_BadLog cz.calm cz.tk cz.room (by exact da_cons (by exact de_str) (by exact da_nil)))) (by exact dss_nil)) (by exact dss_cons (by exact ds_if (by exact DW.dt (by exact dw_or (by exact dt_not (by exact dt_val (by exact de_isi (T := "tuple") (by exact de_var 0) (y.free 88) (y.free 99) (by decide)))) (by exact dw_or1 (by exact dt_not (by exact dt_val (by exact de_bi (cd_all cz.calm) (y.free 84) (by exact da_cons (by exact de_frz (by exact dn_lc (own := [("line", 1)]) (sl := [1]) cz.calm sc_checked_record.nd (by exact di_seq (by exact de_var 0)) (by refine blkOk_by ?_; (conv => lhs; arg 1; whnf); (conv => lhs; arg 2; whnf); first | decide +kernel | kernel_rfl | rfl) (by decide) (fun _ _ _ _ _ => by exact dl_name 1 sc_checked_record.nd) (fun _ _ _ _ _ => by exact dts_nil) (fun _ _ _ _ _ => by exact de_cl c_is_line tkz cz.room (by exact da_cons (by exact de_var 1) (by exact da_nil))))) (by exact da_nil)))))))) (by exact dss_one (by exact ds_raise2 t_BadLog cz.calm cz.tk cz.room (by exact da_cons (by exact de_str) (by exact da_nil)))) (by exact dss_nil)) (by exact dss_one (by exact ds_ret (by exact de_var 0))))
noncomputable def b__law_heard : SM := sTryR (sRt (eTup (aCons (eC (.str "told")) (aCons (eCall 1 m_checked_record (aCons (eV 0) (aNil))) (aNil))))) "BadLog" 1 [.cst "bad", .fld "fault"]
noncomputable def m__law_heard : List D → M D := fnB 2 1 b__law_heard
noncomputable def q__law_heard : { q : List Stmt × Scope // (defBody s__law_heard, defScope s__law_heard) = q } := by
  refine ⟨?q, ?h⟩
  case h =>
    conv =>
      lhs
      congr
      · whnf
      · whnf
theorem sc__law_heard : FnScope ["thing", "e"] ["thing"] q__law_heard.val.2 := ⟨rfl, rfl, rfl, by decide +kernel, rfl, by decide +kernel, by decide +kernel⟩
theorem ok__law_heard (y : Hy fa fn K mg) (c_checked_record : Dn P w K mg base 7 "checked_record" ["thing"] m_checked_record) (t_BadLog : DX P w K mg base file x_BadLog)  : Dn P w K mg base 8 "_law_heard" ["thing"] m__law_heard := by
  obtain ⟨fd, F0⟩ := y.c.def_ 58 (d := d__law_heard) rfl
  have F : FunD K d__law_heard.name d__law_heard.qual d__law_heard.params q__law_heard.val.1 q__law_heard.val.2 [] [] (He.fAd K d__law_heard.at_) fd := F0
  refine ⟨_, fd, y.glo 39, F.kp, FunD.bindsN F fun _ _ _ _ _ _ us hl => match us, hl with | [_], _ => rfl, fn_okD F sc__law_heard fun cdv A outer s H E cz => ?_⟩
  exact dss_one (by exact ds_tryR2 t_BadLog.xc rfl cz.tk rfl rfl sc__law_heard.nd (fun W2 pn xe tk2 po2 => by have cz := cz_tr cz tk2 po2; exact dss_one (by exact ds_ret (by exact de_tup (by exact da_cons (by exact de_str) (by exact da_cons (by exact de_cl c_checked_record cz.tk cz.room (by exact da_cons (by exact de_var 0) (by exact da_nil))) (by exact da_nil)))))) (Sits.cst (Sits.fld Sits.nil)) (by intro f hf; show f ∈ (["fault"] : List Str); simpa using hf) (by decide) rfl rfl (Or.inl rfl) rfl (by decide) (by decide) (by decide) (fun _ _ => rfl))
noncomputable def b_Reading_begin : SM := sAs (eTup (aCons (eNew (eLc (iSeq (eFl ["Reading"] "its_caps" (eV 0))) (lT 2 (lCs (lN 1) (lCs (lN 2) (lNl)))) (tTt) (eV 2) [1, 2])) (aCons (eC (.int 0)) (aNil)))) (gTp 2 (gCs (gFl ["Reading"] "its_left" (eV 0)) (gCs (gFl ["Reading"] "its_money" (eV 0)) (gNl))))
noncomputable def m_Reading_begin : List D → M D := fnB 3 1 b_Reading_begin
noncomputable def q_Reading_begin : { q : List Stmt × Scope // (defBody s_Reading_begin, defScope s_Reading_begin) = q } := by
  refine ⟨?q, ?h⟩
  case h =>
    conv =>
      lhs
      congr
      · whnf
      · whnf
theorem sc_Reading_begin : FnScope ["self", "zones", "price"] ["self"] q_Reading_begin.val.2 := ⟨rfl, rfl, rfl, by decide +kernel, rfl, by decide +kernel, by decide +kernel⟩
theorem ok_Reading_begin (y : Hy fa fn K mg)   : DM P w K mg base 1 "Reading" "begin" ["self"] m_Reading_begin := by
  obtain ⟨fd, F0⟩ := y.c.def_ 14 (d := d_Reading_begin) rfl
  have F : FunD K d_Reading_begin.name d_Reading_begin.qual d_Reading_begin.params q_Reading_begin.val.1 q_Reading_begin.val.2 [] [] (He.fAd K d_Reading_begin.at_) fd := F0
  refine ⟨_, _, fd, y.glo 42, y.cls 43, y.meth 48, FunD.bindsN F fun _ _ _ _ _ _ us hl => match us, hl with | [_], _ => rfl, fn_okD F sc_Reading_begin fun cdv A outer s H E cz => ?_⟩
  exact dss_one (by exact ds_asg (by exact de_tup (by exact da_cons (by exact de_new (by exact dn_lc (own := [("zones", 1), ("price", 2)]) (sl := ([1] ++ ([2] ++ []))) cz.calm sc_Reading_begin.nd (by exact di_seq (by exact de_fld ["Reading"] (cls1 (y.clsA 42 43 45)) (by exact de_var 0))) (by refine blkOk_by ?_; (conv => lhs; arg 1; whnf); (conv => lhs; arg 2; whnf); first | decide +kernel | kernel_rfl | rfl) (by decide) (fun _ _ _ _ _ => by exact dl_tup cz.calm (by exact dls_cons (by exact dl_name 1 sc_Reading_begin.nd) (by exact dls_cons (by exact dl_name 2 sc_Reading_begin.nd) (by exact dls_nil)))) (fun _ _ _ _ _ => by exact dts_nil) (fun _ _ _ _ _ => by exact de_var 2))) (by exact da_cons (by exact de_int) (by exact da_nil)))) (by exact dg_tup cz.calm (by exact dgs_cons (by exact dg_fld ["Reading"] (cls1 (y.clsA 42 43 46)) (by exact de_var 0)) (by exact dgs_cons (by exact dg_fld ["Reading"] (cls1 (y.clsA 42 43 47)) (by exact de_var 0)) (by exact dgs_nil)))))
noncomputable def b_Reading___init__ : SM := sSq (sFl ["Reading"] "its_caps" (eV 0) (eV 1)) (sSq (sAs (eTup (aCons (eNew (lim (aNil))) (aCons (eC (.int 0)) (aNil)))) (gTp 2 (gCs (gFl ["Reading"] "its_left" (eV 0)) (gCs (gFl ["Reading"] "its_money" (eV 0)) (gNl))))) (sEx (eMe "Reading" "begin" 1 m_Reading_begin (eV 0) aNil)))
noncomputable def m_Reading___init__ : List D → M D := fnB 2 2 b_Reading___init__
noncomputable def q_Reading___init__ : { q : List Stmt × Scope // (defBody s_Reading___init__, defScope s_Reading___init__) = q } := by
  refine ⟨?q, ?h⟩
  case h =>
    conv =>
      lhs
      congr
      · whnf
      · whnf
theorem sc_Reading___init__ : FnScope ["self", "caps"] ["self", "caps"] q_Reading___init__.val.2 := ⟨rfl, rfl, rfl, by decide +kernel, rfl, by decide +kernel, by decide +kernel⟩
theorem ok_Reading___init__ (y : Hy fa fn K mg) (c_Reading_begin : DM P w K mg base 1 "Reading" "begin" ["self"] m_Reading_begin)  : DC P w K mg base 2 "Reading" ["self", "caps"] m_Reading___init__ := by
  obtain ⟨fd, F0⟩ := y.c.def_ 13 (d := d_Reading___init__) rfl
  have F : FunD K d_Reading___init__.name d_Reading___init__.qual d_Reading___init__.params q_Reading___init__.val.1 q_Reading___init__.val.2 [] [] (He.fAd K d_Reading___init__.at_) fd := F0
  refine ⟨_, _, fd, y.glo 42, y.mkr 44, FunD.bindsN F fun _ _ _ _ _ _ us hl => match us, hl with | [_, _], _ => rfl, fn_okD F sc_Reading___init__ fun cdv A outer s H E cz => ?_⟩
  exact dss_cons (by exact ds_fld ["Reading"] (cls1 (y.clsA 42 43 45)) (by exact de_var 0) (by exact de_var 1)) (by exact dss_cons (by exact ds_asg (by exact de_tup (by exact da_cons (by exact de_new (by exact dn_lst (by exact da_nil))) (by exact da_cons (by exact de_int) (by exact da_nil)))) (by exact dg_tup cz.calm (by exact dgs_cons (by exact dg_fld ["Reading"] (cls1 (y.clsA 42 43 46)) (by exact de_var 0)) (by exact dgs_cons (by exact dg_fld ["Reading"] (cls1 (y.clsA 42 43 47)) (by exact de_var 0)) (by exact dgs_nil))))) (by exact dss_one (by exact ds_expr (by exact de_mth0 c_Reading_begin cz.tk cz.room (by exact de_var 0)))))
noncomputable def b_has_all : SM := sRt (eB allD (aCons (eFrz (eLc (iSeq (eV 1)) (lN 2) (tTt) (eO (inD false) (eV 2) (eV 0)) [2])) (aNil)))
noncomputable def m_has_all : List D → M D := fnB 3 2 b_has_all
noncomputable def q_has_all : { q : List Stmt × Scope // (defBody s_has_all, defScope s_has_all) = q } := by
  refine ⟨?q, ?h⟩
  case h =>
    conv =>
      lhs
      congr
      · whnf
      · whnf
theorem sc_has_all : FnScope ["zones", "some", "zone"] ["zones", "some"] q_has_all.val.2 := ⟨rfl, rfl, rfl, by decide +kernel, rfl, by decide +kernel, by decide +kernel⟩
theorem ok_has_all (y : Hy fa fn K mg)   : Dn P w K mg base 1 "has_all" ["zones", "some"] m_has_all := by
  obtain ⟨fd, F0⟩ := y.c.def_ 8 (d := d_has_all) rfl
  have F : FunD K d_has_all.name d_has_all.qual d_has_all.params q_has_all.val.1 q_has_all.val.2 [] [] (He.fAd K d_has_all.at_) fd := F0
  refine ⟨_, fd, y.glo 8, F.kp, FunD.bindsN F fun _ _ _ _ _ _ us hl => match us, hl with | [_, _], _ => rfl, fn_okD F sc_has_all fun cdv A outer s H E cz => ?_⟩
  exact dss_one (by exact ds_ret (by exact de_bi (cd_all cz.calm) (y.free 84) (by exact da_cons (by exact de_frz (by exact dn_lc (own := [("zone", 2)]) (sl := [2]) cz.calm sc_has_all.nd (by exact di_seq (by exact de_var 1)) (by refine blkOk_by ?_; (conv => lhs; arg 1; whnf); (conv => lhs; arg 2; whnf); first | decide +kernel | kernel_rfl | rfl) (by decide) (fun _ _ _ _ _ => by exact dl_name 2 sc_has_all.nd) (fun _ _ _ _ _ => by exact dts_nil) (fun _ _ _ _ _ => by exact de_cmp (od_in) (by exact de_var 2) (by exact de_var 0)))) (by exact da_nil))))
noncomputable def b_holds : SM := sRt (eCall 2 m_has_all (aCons (eO ixD (eV 0) (eC (.int 0))) (aCons (eO ixD (eV 1) (eC (.int 0))) (aNil))))
noncomputable def m_holds : List D → M D := fnB 2 2 b_holds
noncomputable def q_holds : { q : List Stmt × Scope // (defBody s_holds, defScope s_holds) = q } := by
  refine ⟨?q, ?h⟩
  case h =>
    conv =>
      lhs
      congr
      · whnf
      · whnf
theorem sc_holds : FnScope ["one", "ride"] ["one", "ride"] q_holds.val.2 := ⟨rfl, rfl, rfl, by decide +kernel, rfl, by decide +kernel, by decide +kernel⟩
theorem ok_holds (y : Hy fa fn K mg) (c_has_all : Dn P w K mg base 1 "has_all" ["zones", "some"] m_has_all)  : Dn P w K mg base 2 "holds" ["one", "ride"] m_holds := by
  obtain ⟨fd, F0⟩ := y.c.def_ 9 (d := d_holds) rfl
  have F : FunD K d_holds.name d_holds.qual d_holds.params q_holds.val.1 q_holds.val.2 [] [] (He.fAd K d_holds.at_) fd := F0
  refine ⟨_, fd, y.glo 9, F.kp, FunD.bindsN F fun _ _ _ _ _ _ us hl => match us, hl with | [_, _], _ => rfl, fn_okD F sc_holds fun cdv A outer s H E cz => ?_⟩
  exact dss_one (by exact ds_ret (by exact de_cl c_has_all cz.tk cz.room (by exact da_cons (by exact de_ix (by exact de_var 0) (by exact de_int)) (by exact da_cons (by exact de_ix (by exact de_var 1) (by exact de_int)) (by exact da_nil)))))
noncomputable def b_who_holds : SM := sRt (eB tupleD (aCons (eFrz (eLc (iEnu (eV 0)) (lT 2 (lCs (lN 2) (lCs (lN 3) (lNl)))) (tV (eCall 2 m_holds (aCons (eV 3) (aCons (eV 1) (aNil))))) (eV 2) [2, 3])) (aNil)))
noncomputable def m_who_holds : List D → M D := fnB 4 2 b_who_holds
noncomputable def q_who_holds : { q : List Stmt × Scope // (defBody s_who_holds, defScope s_who_holds) = q } := by
  refine ⟨?q, ?h⟩
  case h =>
    conv =>
      lhs
      congr
      · whnf
      · whnf
theorem sc_who_holds : FnScope ["passes", "ride", "index", "one"] ["passes", "ride"] q_who_holds.val.2 := ⟨rfl, rfl, rfl, by decide +kernel, rfl, by decide +kernel, by decide +kernel⟩
theorem ok_who_holds (y : Hy fa fn K mg) (c_holds : Dn P w K mg base 2 "holds" ["one", "ride"] m_holds)  : Dn P w K mg base 3 "who_holds" ["passes", "ride"] m_who_holds := by
  obtain ⟨fd, F0⟩ := y.c.def_ 10 (d := d_who_holds) rfl
  have F : FunD K d_who_holds.name d_who_holds.qual d_who_holds.params q_who_holds.val.1 q_who_holds.val.2 [] [] (He.fAd K d_who_holds.at_) fd := F0
  refine ⟨_, fd, y.glo 10, F.kp, FunD.bindsN F fun _ _ _ _ _ _ us hl => match us, hl with | [_, _], _ => rfl, fn_okD F sc_who_holds fun cdv A outer s H E cz => ?_⟩
  exact dss_one (by exact ds_ret (by exact de_ty cd_tuple (y.free 99) (by exact da_cons (by exact de_frz (by exact dn_lc (own := [("index", 2), ("one", 3)]) (sl := ([2] ++ ([3] ++ []))) cz.calm sc_who_holds.nd (by exact di_en (y.free 86) (by exact de_var 0)) (by refine blkOk_by ?_; (conv => lhs; arg 1; whnf); (conv => lhs; arg 2; whnf); first | decide +kernel | kernel_rfl | rfl) (by decide) (fun _ _ _ _ _ => by exact dl_tup cz.calm (by exact dls_cons (by exact dl_name 2 sc_who_holds.nd) (by exact dls_cons (by exact dl_name 3 sc_who_holds.nd) (by exact dls_nil)))) (fun _ _ _ _ _ => by exact dts_one (by exact dt_val (by exact de_cl c_holds tkz cz.room (by exact da_cons (by exact de_var 3) (by exact da_cons (by exact de_var 1) (by exact da_nil)))))) (fun _ _ _ _ _ => by exact de_var 2))) (by exact da_nil))))
noncomputable def b_Reading_lead : SM := sIf (tB' (eO eqD (eO ixD (eV 1) (eC (.int 0))) (eC (.str "day")))) (sEx (eMe "Reading" "begin" 1 m_Reading_begin (eV 0) aNil)) (sIf (tB' (eO eqD (eO ixD (eV 1) (eC (.int 0))) (eC (.str "ride")))) (sSq (sFor (iSeq (eCall 2 m_who_holds (aCons (eFl ["Reading"] "its_caps" (eV 0)) (aCons (eO ixD (eV 1) (eC (.int 1))) (aNil))))) (gL (lN 2)) (sAuS subD (eFl ["Reading"] "its_left" (eV 0)) (eV 2) (eO ixD (eV 1) (eC (.int 2))))) (sAuF ["Reading"] "its_money" iaddD (eV 0) (eO ixD (eV 1) (eC (.int 2))))) (sNx))
noncomputable def m_Reading_lead : List D → M D := fnB 3 2 b_Reading_lead
noncomputable def q_Reading_lead : { q : List Stmt × Scope // (defBody s_Reading_lead, defScope s_Reading_lead) = q } := by
  refine ⟨?q, ?h⟩
  case h =>
    conv =>
      lhs
      congr
      · whnf
      · whnf
theorem sc_Reading_lead : FnScope ["self", "line", "index"] ["self", "line"] q_Reading_lead.val.2 := ⟨rfl, rfl, rfl, by decide +kernel, rfl, by decide +kernel, by decide +kernel⟩
theorem ok_Reading_lead (y : Hy fa fn K mg) (c_Reading_begin : DM P w K mg base 1 "Reading" "begin" ["self"] m_Reading_begin) (c_who_holds : Dn P w K mg base 3 "who_holds" ["passes", "ride"] m_who_holds)  : DM P w K mg base 4 "Reading" "lead" ["self", "line"] m_Reading_lead := by
  obtain ⟨fd, F0⟩ := y.c.def_ 18 (d := d_Reading_lead) rfl
  have F : FunD K d_Reading_lead.name d_Reading_lead.qual d_Reading_lead.params q_Reading_lead.val.1 q_Reading_lead.val.2 [] [] (He.fAd K d_Reading_lead.at_) fd := F0
  refine ⟨_, _, fd, y.glo 42, y.cls 43, y.meth 52, FunD.bindsN F fun _ _ _ _ _ _ us hl => match us, hl with | [_, _], _ => rfl, fn_okD F sc_Reading_lead fun cdv A outer s H E cz => ?_⟩
  exact dss_one (by exact ds_if (by exact dt_cmp (od_eq cz.hu) (by exact de_ix (by exact de_var 1) (by exact de_int)) (by exact de_gstr (y.str 79))) (by exact dss_one (by exact ds_expr (by exact de_mth0 c_Reading_begin cz.tk cz.room (by exact de_var 0)))) (by exact dss_one (by exact ds_if (by exact dt_cmp (od_eq cz.hu) (by exact de_ix (by exact de_var 1) (by exact de_int)) (by exact de_gstr (y.str 78))) (by exact dss_cons (by exact ds_for cz.po cz.calm (by exact di_seq (by exact de_cl c_who_holds cz.tk cz.room (by exact da_cons (by exact de_fld ["Reading"] (cls1 (y.clsA 42 43 45)) (by exact de_var 0)) (by exact da_cons (by exact de_ix (by exact de_var 1) (by exact de_int)) (by exact da_nil))))) (DL.dg (by exact dl_name 2 sc_Reading_lead.nd)) (by exact dss_one (by exact ds_augS od_isub (by exact de_fld ["Reading"] (cls1 (y.clsA 42 43 46)) (by exact de_var 0)) (by exact de_var 2) (by exact de_ix (by exact de_var 1) (by exact de_int))))) (by exact dss_one (by exact ds_augF ["Reading"] (cls1 (y.clsA 42 43 47)) od_iadd (by exact de_var 0) (by exact de_ix (by exact de_var 1) (by exact de_int))))) (by exact dss_nil))))
noncomputable def b_reading_ahead : SM := sSq (sSet 3 (eMk "Reading" 2 m_Reading___init__ (aCons (eV 0) (aNil)))) (sSq (sFor (iSeq (eSl (eV 1) (pNo) (pSo (eV 2)))) (gL (lN 4)) (sEx (eMe "Reading" "lead" 2 m_Reading_lead (eV 3) (aCons (eV 4) (aNil))))) (sRt (eV 3)))
noncomputable def m_reading_ahead : List D → M D := fnB 5 3 b_reading_ahead
noncomputable def q_reading_ahead : { q : List Stmt × Scope // (defBody s_reading_ahead, defScope s_reading_ahead) = q } := by
  refine ⟨?q, ?h⟩
  case h =>
    conv =>
      lhs
      congr
      · whnf
      · whnf
theorem sc_reading_ahead : FnScope ["caps", "record", "index", "reading", "line"] ["caps", "record", "index"] q_reading_ahead.val.2 := ⟨rfl, rfl, rfl, by decide +kernel, rfl, by decide +kernel, by decide +kernel⟩
theorem ok_reading_ahead (y : Hy fa fn K mg) (c_Reading___init__ : DC P w K mg base 2 "Reading" ["self", "caps"] m_Reading___init__) (c_Reading_lead : DM P w K mg base 4 "Reading" "lead" ["self", "line"] m_Reading_lead)  : Dn P w K mg base 5 "reading_ahead" ["caps", "record", "index"] m_reading_ahead := by
  obtain ⟨fd, F0⟩ := y.c.def_ 19 (d := d_reading_ahead) rfl
  have F : FunD K d_reading_ahead.name d_reading_ahead.qual d_reading_ahead.params q_reading_ahead.val.1 q_reading_ahead.val.2 [] [] (He.fAd K d_reading_ahead.at_) fd := F0
  refine ⟨_, fd, y.glo 13, F.kp, FunD.bindsN F fun _ _ _ _ _ _ us hl => match us, hl with | [_, _, _], _ => rfl, fn_okD F sc_reading_ahead fun cdv A outer s H E cz => ?_⟩
  exact dss_cons (by exact ds_set 3 (by exact de_mkc c_Reading___init__ cz.tk cz.room (by exact da_cons (by exact de_var 0) (by exact da_nil))) sc_reading_ahead.nd) (by exact dss_cons (by exact ds_for cz.po cz.calm (by exact di_seq (by exact de_sl (by exact de_var 1) (by exact dp_none) (by exact dp_some (by exact de_var 2)))) (DL.dg (by exact dl_name 4 sc_reading_ahead.nd)) (by exact dss_one (by exact ds_expr (by exact de_mth c_Reading_lead cz.tk cz.room (by exact de_var 3) (by exact da_cons (by exact de_var 4) (by exact da_nil)))))) (by exact dss_one (by exact ds_ret (by exact de_var 3))))
noncomputable def b_Reading_too_small : SM := sRt (eFrz (eLc (iSeq (eCall 2 m_who_holds (aCons (eFl ["Reading"] "its_caps" (eV 0)) (aCons (eV 1) (aNil))))) (lN 3) (tB' (eO ltD (eB maxD (aCons (eC (.int 0)) (aCons (eO ixD (eFl ["Reading"] "its_left" (eV 0)) (eV 3)) (aNil)))) (eV 2))) (eV 3) [3]))
noncomputable def m_Reading_too_small : List D → M D := fnB 4 3 b_Reading_too_small
noncomputable def q_Reading_too_small : { q : List Stmt × Scope // (defBody s_Reading_too_small, defScope s_Reading_too_small) = q } := by
  refine ⟨?q, ?h⟩
  case h =>
    conv =>
      lhs
      congr
      · whnf
      · whnf
theorem sc_Reading_too_small : FnScope ["self", "ride", "cents", "index"] ["self", "ride", "cents"] q_Reading_too_small.val.2 := ⟨rfl, rfl, rfl, by decide +kernel, rfl, by decide +kernel, by decide +kernel⟩
theorem ok_Reading_too_small (y : Hy fa fn K mg) (c_who_holds : Dn P w K mg base 3 "who_holds" ["passes", "ride"] m_who_holds)  : DM P w K mg base 4 "Reading" "too_small" ["self", "ride", "cents"] m_Reading_too_small := by
  obtain ⟨fd, F0⟩ := y.c.def_ 16 (d := d_Reading_too_small) rfl
  have F : FunD K d_Reading_too_small.name d_Reading_too_small.qual d_Reading_too_small.params q_Reading_too_small.val.1 q_Reading_too_small.val.2 [] [] (He.fAd K d_Reading_too_small.at_) fd := F0
  refine ⟨_, _, fd, y.glo 42, y.cls 43, y.meth 50, FunD.bindsN F fun _ _ _ _ _ _ us hl => match us, hl with | [_, _, _], _ => rfl, fn_okD F sc_Reading_too_small fun cdv A outer s H E cz => ?_⟩
  exact dss_one (by exact ds_ret (by exact de_frz (by exact dn_lc (own := [("index", 3)]) (sl := [3]) cz.calm sc_Reading_too_small.nd (by exact di_seq (by exact de_cl c_who_holds cz.tk cz.room (by exact da_cons (by exact de_fld ["Reading"] (cls1 (y.clsA 42 43 45)) (by exact de_var 0)) (by exact da_cons (by exact de_var 1) (by exact da_nil))))) (by refine blkOk_by ?_; (conv => lhs; arg 1; whnf); (conv => lhs; arg 2; whnf); first | decide +kernel | kernel_rfl | rfl) (by decide) (fun _ _ _ _ _ => by exact dl_name 3 sc_Reading_too_small.nd) (fun _ _ _ _ _ => by exact dts_one (by exact dt_cmp (od_lt) (by exact de_bi (cd_max cz.calm) (y.free 91) (by exact da_cons (by exact de_int) (by exact da_cons (by exact de_ix (by exact de_fld ["Reading"] (cls1 (y.clsA 42 43 46)) (by exact de_var 0)) (by exact de_var 3)) (by exact da_nil)))) (by exact de_var 2))) (fun _ _ _ _ _ => by exact de_var 3))))
noncomputable def b_Reading_due : SM := sRt (eB minD (aCons (eFrz (lim (aCons (eO ixD (eV 1) (eC (.int 1))) (aStar (eFrz (eLc (iSeq (eCall 2 m_who_holds (aCons (eFl ["Reading"] "its_caps" (eV 0)) (aCons (eV 1) (aNil))))) (lN 2) (tTt) (eB maxD (aCons (eC (.int 0)) (aCons (eO ixD (eFl ["Reading"] "its_left" (eV 0)) (eV 2)) (aNil)))) [2])) (aNil))))) (aNil)))
noncomputable def m_Reading_due : List D → M D := fnB 3 2 b_Reading_due
noncomputable def q_Reading_due : { q : List Stmt × Scope // (defBody s_Reading_due, defScope s_Reading_due) = q } := by
  refine ⟨?q, ?h⟩
  case h =>
    conv =>
      lhs
      congr
      · whnf
      · whnf
theorem sc_Reading_due : FnScope ["self", "ride", "index"] ["self", "ride"] q_Reading_due.val.2 := ⟨rfl, rfl, rfl, by decide +kernel, rfl, by decide +kernel, by decide +kernel⟩
theorem ok_Reading_due (y : Hy fa fn K mg) (c_who_holds : Dn P w K mg base 3 "who_holds" ["passes", "ride"] m_who_holds)  : DM P w K mg base 4 "Reading" "due" ["self", "ride"] m_Reading_due := by
  obtain ⟨fd, F0⟩ := y.c.def_ 15 (d := d_Reading_due) rfl
  have F : FunD K d_Reading_due.name d_Reading_due.qual d_Reading_due.params q_Reading_due.val.1 q_Reading_due.val.2 [] [] (He.fAd K d_Reading_due.at_) fd := F0
  refine ⟨_, _, fd, y.glo 42, y.cls 43, y.meth 49, FunD.bindsN F fun _ _ _ _ _ _ us hl => match us, hl with | [_, _], _ => rfl, fn_okD F sc_Reading_due fun cdv A outer s H E cz => ?_⟩
  exact dss_one (by exact ds_ret (by exact de_bi (cd_min cz.calm) (y.free 92) (by exact da_cons (by exact de_frz (by exact dn_lst (by exact da_cons (by exact de_ix (by exact de_var 1) (by exact de_int)) (by exact da_star (by exact de_frz (by exact dn_lc (own := [("index", 2)]) (sl := [2]) cz.calm sc_Reading_due.nd (by exact di_seq (by exact de_cl c_who_holds cz.tk cz.room (by exact da_cons (by exact de_fld ["Reading"] (cls1 (y.clsA 42 43 45)) (by exact de_var 0)) (by exact da_cons (by exact de_var 1) (by exact da_nil))))) (by refine blkOk_by ?_; (conv => lhs; arg 1; whnf); (conv => lhs; arg 2; whnf); first | decide +kernel | kernel_rfl | rfl) (by decide) (fun _ _ _ _ _ => by exact dl_name 2 sc_Reading_due.nd) (fun _ _ _ _ _ => by exact dts_nil) (fun _ _ _ _ _ => by exact de_bi (cd_max cz.calm) (y.free 91) (by exact da_cons (by exact de_int) (by exact da_cons (by exact de_ix (by exact de_fld ["Reading"] (cls1 (y.clsA 42 43 46)) (by exact de_var 0)) (by exact de_var 2)) (by exact da_nil)))))) (by exact da_nil))))) (by exact da_nil))))
noncomputable def b_Reading_word : SM := sSq (sIf (tB' (eO eqD (eO ixD (eV 1) (eC (.int 0))) (eC (.str "day")))) (sRt (eC .non)) (sNx)) (sSq (sIf (tB' (eO eqD (eO ixD (eV 1) (eC (.int 0))) (eC (.str "count")))) (sRt (tIf' (tB' (eO eqD (eO ixD (eV 1) (eC (.int 1))) (eFl ["Reading"] "its_money" (eV 0)))) (eC .non) (eC (.str "count")))) (sNx)) (sSq (sAs (eV 1) (gTp 3 (gCs (gN 2) (gCs (gN 3) (gCs (gN 4) (gNl)))))) (sSq (sIf (tB' (eO ltD (eV 4) (eC (.int 0)))) (sRt (eC (.str "below"))) (sNx)) (sSq (sIf (tB' (eO gtD (eV 4) (eO ixD (eV 3) (eC (.int 1))))) (sRt (eC (.str "fare"))) (sNx)) (sSq (sIf (tB' (eO neD (eMe "Reading" "too_small" 3 m_Reading_too_small (eV 0) (aCons (eV 3) (aCons (eV 4) (aNil)))) (eFrz (lim (aNil))))) (sRt (eC (.str "cap"))) (sNx)) (sRt (tIf' (tB' (eO ltD (eV 4) (eMe "Reading" "due" 2 m_Reading_due (eV 0) (aCons (eV 3) (aNil))))) (eC (.str "little")) (eC .non))))))))
noncomputable def m_Reading_word : List D → M D := fnB 5 2 b_Reading_word
noncomputable def q_Reading_word : { q : List Stmt × Scope // (defBody s_Reading_word, defScope s_Reading_word) = q } := by
  refine ⟨?q, ?h⟩
  case h =>
    conv =>
      lhs
      congr
      · whnf
      · whnf
theorem sc_Reading_word : FnScope ["self", "line", "word", "ride", "cents"] ["self", "line"] q_Reading_word.val.2 := ⟨rfl, rfl, rfl, by decide +kernel, rfl, by decide +kernel, by decide +kernel⟩
theorem ok_Reading_word (y : Hy fa fn K mg) (c_Reading_too_small : DM P w K mg base 4 "Reading" "too_small" ["self", "ride", "cents"] m_Reading_too_small) (c_Reading_due : DM P w K mg base 4 "Reading" "due" ["self", "ride"] m_Reading_due)  : DM P w K mg base 5 "Reading" "word" ["self", "line"] m_Reading_word := by
  obtain ⟨fd, F0⟩ := y.c.def_ 17 (d := d_Reading_word) rfl
  have F : FunD K d_Reading_word.name d_Reading_word.qual d_Reading_word.params q_Reading_word.val.1 q_Reading_word.val.2 [] [] (He.fAd K d_Reading_word.at_) fd := F0
  refine ⟨_, _, fd, y.glo 42, y.cls 43, y.meth 51, FunD.bindsN F fun _ _ _ _ _ _ us hl => match us, hl with | [_, _], _ => rfl, fn_okD F sc_Reading_word fun cdv A outer s H E cz => ?_⟩
  exact dss_cons (by exact ds_if (by exact dt_cmp (od_eq cz.hu) (by exact de_ix (by exact de_var 1) (by exact de_int)) (by exact de_gstr (y.str 79))) (by exact dss_one (by exact ds_ret (by exact de_non))) (by exact dss_nil)) (by exact dss_cons (by exact ds_if (by exact dt_cmp (od_eq cz.hu) (by exact de_ix (by exact de_var 1) (by exact de_int)) (by exact de_gstr (y.str 80))) (by exact dss_one (by exact ds_ret (by exact de_ifExp (by exact dt_cmp (od_eq cz.hu) (by exact de_ix (by exact de_var 1) (by exact de_int)) (by exact de_fld ["Reading"] (cls1 (y.clsA 42 43 47)) (by exact de_var 0))) (by exact de_non) (by exact de_gstr (y.str 80))))) (by exact dss_nil)) (by exact dss_cons (by exact ds_asg (by exact de_var 1) (by exact dg_tup cz.calm (by exact dgs_cons (by exact dg_name 2 sc_Reading_word.nd) (by exact dgs_cons (by exact dg_name 3 sc_Reading_word.nd) (by exact dgs_cons (by exact dg_name 4 sc_Reading_word.nd) (by exact dgs_nil)))))) (by exact dss_cons (by exact ds_if (by exact dt_cmp (od_lt) (by exact de_var 4) (by exact de_int)) (by exact dss_one (by exact ds_ret (by exact de_str))) (by exact dss_nil)) (by exact dss_cons (by exact ds_if (by exact dt_cmp (od_gt) (by exact de_var 4) (by exact de_ix (by exact de_var 3) (by exact de_int))) (by exact dss_one (by exact ds_ret (by exact de_str))) (by exact dss_nil)) (by exact dss_cons (by exact ds_if (by exact dt_cmp (od_ne cz.hu) (by exact de_mth c_Reading_too_small cz.tk cz.room (by exact de_var 0) (by exact da_cons (by exact de_var 3) (by exact da_cons (by exact de_var 4) (by exact da_nil)))) (by exact de_frz (by exact dn_lst (by exact da_nil)))) (by exact dss_one (by exact ds_ret (by exact de_str))) (by exact dss_nil)) (by exact dss_one (by exact ds_ret (by exact de_ifExp (by exact dt_cmp (od_lt) (by exact de_var 4) (by exact de_mth c_Reading_due cz.tk cz.room (by exact de_var 0) (by exact da_cons (by exact de_var 3) (by exact da_nil)))) (by exact de_str) (by exact de_non)))))))))
noncomputable def b_word_at : SM := sRt (eMe "Reading" "word" 2 m_Reading_word (eCall 3 m_reading_ahead (aCons (eV 0) (aCons (eV 1) (aCons (eV 2) (aNil))))) (aCons (eO ixD (eV 1) (eV 2)) (aNil)))
noncomputable def m_word_at : List D → M D := fnB 3 3 b_word_at
noncomputable def q_word_at : { q : List Stmt × Scope // (defBody s_word_at, defScope s_word_at) = q } := by
  refine ⟨?q, ?h⟩
  case h =>
    conv =>
      lhs
      congr
      · whnf
      · whnf
theorem sc_word_at : FnScope ["caps", "record", "index"] ["caps", "record", "index"] q_word_at.val.2 := ⟨rfl, rfl, rfl, by decide +kernel, rfl, by decide +kernel, by decide +kernel⟩
theorem ok_word_at (y : Hy fa fn K mg) (c_reading_ahead : Dn P w K mg base 5 "reading_ahead" ["caps", "record", "index"] m_reading_ahead) (c_Reading_word : DM P w K mg base 5 "Reading" "word" ["self", "line"] m_Reading_word)  : Dn P w K mg base 6 "word_at" ["caps", "record", "index"] m_word_at := by
  obtain ⟨fd, F0⟩ := y.c.def_ 22 (d := d_word_at) rfl
  have F : FunD K d_word_at.name d_word_at.qual d_word_at.params q_word_at.val.1 q_word_at.val.2 [] [] (He.fAd K d_word_at.at_) fd := F0
  refine ⟨_, fd, y.glo 16, F.kp, FunD.bindsN F fun _ _ _ _ _ _ us hl => match us, hl with | [_, _, _], _ => rfl, fn_okD F sc_word_at fun cdv A outer s H E cz => ?_⟩
  exact dss_one (by exact ds_ret (by exact de_mth c_Reading_word cz.tk cz.room (by exact de_cl c_reading_ahead cz.tk cz.room (by exact da_cons (by exact de_var 0) (by exact da_cons (by exact de_var 1) (by exact da_cons (by exact de_var 2) (by exact da_nil))))) (by exact da_cons (by exact de_ix (by exact de_var 1) (by exact de_var 2)) (by exact da_nil))))
noncomputable def b_money_at : SM := sRt (eFl ["Reading"] "its_money" (eCall 3 m_reading_ahead (aCons (eV 0) (aCons (eV 1) (aCons (eV 2) (aNil))))))
noncomputable def m_money_at : List D → M D := fnB 3 3 b_money_at
noncomputable def q_money_at : { q : List Stmt × Scope // (defBody s_money_at, defScope s_money_at) = q } := by
  refine ⟨?q, ?h⟩
  case h =>
    conv =>
      lhs
      congr
      · whnf
      · whnf
theorem sc_money_at : FnScope ["caps", "record", "index"] ["caps", "record", "index"] q_money_at.val.2 := ⟨rfl, rfl, rfl, by decide +kernel, rfl, by decide +kernel, by decide +kernel⟩
theorem ok_money_at (y : Hy fa fn K mg) (c_reading_ahead : Dn P w K mg base 5 "reading_ahead" ["caps", "record", "index"] m_reading_ahead)  : Dn P w K mg base 6 "money_at" ["caps", "record", "index"] m_money_at := by
  obtain ⟨fd, F0⟩ := y.c.def_ 21 (d := d_money_at) rfl
  have F : FunD K d_money_at.name d_money_at.qual d_money_at.params q_money_at.val.1 q_money_at.val.2 [] [] (He.fAd K d_money_at.at_) fd := F0
  refine ⟨_, fd, y.glo 15, F.kp, FunD.bindsN F fun _ _ _ _ _ _ us hl => match us, hl with | [_, _, _], _ => rfl, fn_okD F sc_money_at fun cdv A outer s H E cz => ?_⟩
  exact dss_one (by exact ds_ret (by exact de_fld ["Reading"] (cls1 (y.clsA 42 43 47)) (by exact de_cl c_reading_ahead cz.tk cz.room (by exact da_cons (by exact de_var 0) (by exact da_cons (by exact de_var 1) (by exact da_cons (by exact de_var 2) (by exact da_nil)))))))
noncomputable def b_left_at : SM := sRt (eB tupleD (aCons (eFl ["Reading"] "its_left" (eCall 3 m_reading_ahead (aCons (eV 0) (aCons (eV 1) (aCons (eV 2) (aNil)))))) (aNil)))
noncomputable def m_left_at : List D → M D := fnB 3 3 b_left_at
noncomputable def q_left_at : { q : List Stmt × Scope // (defBody s_left_at, defScope s_left_at) = q } := by
  refine ⟨?q, ?h⟩
  case h =>
    conv =>
      lhs
      congr
      · whnf
      · whnf
theorem sc_left_at : FnScope ["caps", "record", "index"] ["caps", "record", "index"] q_left_at.val.2 := ⟨rfl, rfl, rfl, by decide +kernel, rfl, by decide +kernel, by decide +kernel⟩
theorem ok_left_at (y : Hy fa fn K mg) (c_reading_ahead : Dn P w K mg base 5 "reading_ahead" ["caps", "record", "index"] m_reading_ahead)  : Dn P w K mg base 6 "left_at" ["caps", "record", "index"] m_left_at := by
  obtain ⟨fd, F0⟩ := y.c.def_ 20 (d := d_left_at) rfl
  have F : FunD K d_left_at.name d_left_at.qual d_left_at.params q_left_at.val.1 q_left_at.val.2 [] [] (He.fAd K d_left_at.at_) fd := F0
  refine ⟨_, fd, y.glo 14, F.kp, FunD.bindsN F fun _ _ _ _ _ _ us hl => match us, hl with | [_, _, _], _ => rfl, fn_okD F sc_left_at fun cdv A outer s H E cz => ?_⟩
  exact dss_one (by exact ds_ret (by exact de_ty cd_tuple (y.free 99) (by exact da_cons (by exact de_fld ["Reading"] (cls1 (y.clsA 42 43 46)) (by exact de_cl c_reading_ahead cz.tk cz.room (by exact da_cons (by exact de_var 0) (by exact da_cons (by exact de_var 1) (by exact da_cons (by exact de_var 2) (by exact da_nil)))))) (by exact da_nil))))
noncomputable def b__law_word : SM := sSq (sSet 3 (eO ixD (eV 1) (eV 2))) (sSq (sIf (tB' (eO eqD (eO ixD (eV 3) (eC (.int 0))) (eC (.str "day")))) (sRt (eC .non)) (sNx)) (sSq (sIf (tB' (eO eqD (eO ixD (eV 3) (eC (.int 0))) (eC (.str "count")))) (sRt (tIf' (tB' (eO eqD (eO ixD (eV 3) (eC (.int 1))) (eCall 2 m__law_money (aCons (eV 1) (aCons (eV 2) (aNil)))))) (eC .non) (eC (.str "count")))) (sNx)) (sSq (sIf (tB' (eO ltD (eO ixD (eV 3) (eC (.int 2))) (eC (.int 0)))) (sRt (eC (.str "below"))) (sNx)) (sSq (sIf (tB' (eO gtD (eO ixD (eV 3) (eC (.int 2))) (eO ixD (eO ixD (eV 3) (eC (.int 1))) (eC (.int 1))))) (sRt (eC (.str "fare"))) (sNx)) (sSq (sSet 4 (eFrz (eLc (iZp (eV 0) (eCall 3 m__law_left (aCons (eV 0) (aCons (eV 1) (aCons (eV 2) (aNil)))))) (lT 2 (lCs (lN 5) (lCs (lN 6) (lNl)))) (tV (eCall 2 m__law_holds (aCons (eO ixD (eV 5) (eC (.int 0))) (aCons (eO ixD (eV 3) (eC (.int 1))) (aNil))))) (eB maxD (aCons (eC (.int 0)) (aCons (eV 6) (aNil)))) [5, 6]))) (sSq (sIf (tB' (eO neD (eFrz (eLc (iSeq (eV 4)) (lN 6) (tB' (eO gtD (eO ixD (eV 3) (eC (.int 2))) (eV 6))) (eC (.int 1)) [6])) (eFrz (lim (aNil))))) (sRt (eC (.str "cap"))) (sNx)) (sRt (tIf' (tB' (eO ltD (eO ixD (eV 3) (eC (.int 2))) (eCall 3 m__law_due (aCons (eV 0) (aCons (eV 1) (aCons (eV 2) (aNil))))))) (eC (.str "little")) (eC .non)))))))))
noncomputable def m__law_word : List D → M D := fnB 7 3 b__law_word
noncomputable def q__law_word : { q : List Stmt × Scope // (defBody s__law_word, defScope s__law_word) = q } := by
  refine ⟨?q, ?h⟩
  case h =>
    conv =>
      lhs
      congr
      · whnf
      · whnf
theorem sc__law_word : FnScope ["caps", "record", "index", "line", "held", "cap", "many"] ["caps", "record", "index"] q__law_word.val.2 := ⟨rfl, rfl, rfl, by decide +kernel, rfl, by decide +kernel, by decide +kernel⟩
theorem ok__law_word (y : Hy fa fn K mg) (c__law_money : Dn P w K mg base 1 "_law_money" ["record", "index"] m__law_money) (c__law_left : Dn P w K mg base 2 "_law_left" ["caps", "record", "index"] m__law_left) (c__law_holds : Dn P w K mg base 1 "_law_holds" ["zones", "ride"] m__law_holds) (c__law_due : Dn P w K mg base 3 "_law_due" ["caps", "record", "index"] m__law_due)  : Dn P w K mg base 4 "_law_word" ["caps", "record", "index"] m__law_word := by
  obtain ⟨fd, F0⟩ := y.c.def_ 56 (d := d__law_word) rfl
  have F : FunD K d__law_word.name d__law_word.qual d__law_word.params q__law_word.val.1 q__law_word.val.2 [] [] (He.fAd K d__law_word.at_) fd := F0
  refine ⟨_, fd, y.glo 37, F.kp, FunD.bindsN F fun _ _ _ _ _ _ us hl => match us, hl with | [_, _, _], _ => rfl, fn_okD F sc__law_word fun cdv A outer s H E cz => ?_⟩
  exact dss_cons (by exact ds_set 3 (by exact de_ix (by exact de_var 1) (by exact de_var 2)) sc__law_word.nd) (by exact dss_cons (by exact ds_if (by exact dt_cmp (od_eq cz.hu) (by exact de_ix (by exact de_var 3) (by exact de_int)) (by exact de_str)) (by exact dss_one (by exact ds_ret (by exact de_non))) (by exact dss_nil)) (by exact dss_cons (by exact ds_if (by exact dt_cmp (od_eq cz.hu) (by exact de_ix (by exact de_var 3) (by exact de_int)) (by exact de_str)) (by exact dss_one (by exact ds_ret (by exact de_ifExp (by exact dt_cmp (od_eq cz.hu) (by exact de_ix (by exact de_var 3) (by exact de_int)) (by exact de_cl c__law_money cz.tk cz.room (by exact da_cons (by exact de_var 1) (by exact da_cons (by exact de_var 2) (by exact da_nil))))) (by exact de_non) (by exact de_str)))) (by exact dss_nil)) (by exact dss_cons (by exact ds_if (by exact dt_cmp (od_lt) (by exact de_ix (by exact de_var 3) (by exact de_int)) (by exact de_int)) (by exact dss_one (by exact ds_ret (by exact de_str))) (by exact dss_nil)) (by exact dss_cons (by exact ds_if (by exact dt_cmp (od_gt) (by exact de_ix (by exact de_var 3) (by exact de_int)) (by exact de_ix (by exact de_ix (by exact de_var 3) (by exact de_int)) (by exact de_int))) (by exact dss_one (by exact ds_ret (by exact de_str))) (by exact dss_nil)) (by exact dss_cons (by exact ds_setLc 4 (mk := eFrz) (own := [("cap", 5), ("many", 6)]) (sl := ([5] ++ ([6] ++ []))) cz.calm sc__law_word.nd (by exact di_zp (y.free 100) (by exact de_var 0) (by exact de_cl c__law_left cz.tk cz.room (by exact da_cons (by exact de_var 0) (by exact da_cons (by exact de_var 1) (by exact da_cons (by exact de_var 2) (by exact da_nil)))))) (by refine blkOk_by ?_; (conv => lhs; arg 1; whnf); (conv => lhs; arg 2; whnf); first | decide +kernel | kernel_rfl | rfl) (by decide) (fun _ _ _ _ _ => by exact dl_tup cz.calm (by exact dls_cons (by exact dl_name 5 sc__law_word.nd) (by exact dls_cons (by exact dl_name 6 sc__law_word.nd) (by exact dls_nil)))) (fun _ _ _ _ _ => by exact dts_one (by exact dt_val (by exact de_cl c__law_holds tkz cz.room (by exact da_cons (by exact de_ix (by exact de_var 5) (by exact de_int)) (by exact da_cons (by exact de_ix (by exact de_var 3) (by exact de_int)) (by exact da_nil)))))) (fun _ _ _ _ _ => by exact de_bi (cd_max cz.calm) (y.free 91) (by exact da_cons (by exact de_int) (by exact da_cons (by exact de_var 6) (by exact da_nil)))) frz_read) (by exact dss_cons (by exact ds_if (by exact dt_cmp (od_ne cz.hu) (by exact de_frz (by exact dn_lc (own := [("many", 6)]) (sl := [6]) cz.calm sc__law_word.nd (by exact di_seq (by exact de_var 4)) (by refine blkOk_by ?_; (conv => lhs; arg 1; whnf); (conv => lhs; arg 2; whnf); first | decide +kernel | kernel_rfl | rfl) (by decide) (fun _ _ _ _ _ => by exact dl_name 6 sc__law_word.nd) (fun _ _ _ _ _ => by exact dts_one (by exact dt_cmp (od_gt) (by exact de_ix (by exact de_var 3) (by exact de_int)) (by exact de_var 6))) (fun _ _ _ _ _ => by exact de_int))) (by exact de_frz (by exact dn_lst (by exact da_nil)))) (by exact dss_one (by exact ds_ret (by exact de_str))) (by exact dss_nil)) (by exact dss_one (by exact ds_ret (by exact de_ifExp (by exact dt_cmp (od_lt) (by exact de_ix (by exact de_var 3) (by exact de_int)) (by exact de_cl c__law_due cz.tk cz.room (by exact da_cons (by exact de_var 0) (by exact da_cons (by exact de_var 1) (by exact da_cons (by exact de_var 2) (by exact da_nil)))))) (by exact de_str) (by exact de_non))))))))))
noncomputable def b_checked_passes : SM := sSq (sIf (tNo (tV (eIs ["tuple"] (eV 0)))) (sBd) (sNx)) (sSq (sIf (tB' (eO gtD (eB lenD (aCons (eV 0) (aNil))) (eC (.int 12)))) (sBd) (sNx)) (sSq (sFor (iEnu (eV 0)) (gL (lT 2 (lCs (lN 1) (lCs (lN 2) (lNl))))) (sSq (sSet 3 (eCall 2 m_row_fault (aCons (eV 2) (aCons (eC (.int 1000000)) (aNil))))) (sIf (tB' (eO isnD (eV 3) (eC .non))) (sBd) (sNx)))) (sRt (eV 0))))
noncomputable def m_checked_passes : List D → M D := fnB 4 1 b_checked_passes
noncomputable def q_checked_passes : { q : List Stmt × Scope // (defBody s_checked_passes, defScope s_checked_passes) = q } := by
  refine ⟨?q, ?h⟩
  case h =>
    conv =>
      lhs
      congr
      · whnf
      · whnf
theorem sc_checked_passes : FnScope ["thing", "index", "one", "fault"] ["thing"] q_checked_passes.val.2 := ⟨rfl, rfl, rfl, by decide +kernel, rfl, by decide +kernel, by decide +kernel⟩
theorem ok_checked_passes (y : Hy fa fn K mg) (c_row_fault : Dn P w K mg base 5 "row_fault" ["thing", "most"] m_row_fault)  : Dn P w K mg base 6 "checked_passes" ["thing"] m_checked_passes := by
  obtain ⟨fd, F0⟩ := y.c.def_ 7 (d := d_checked_passes) rfl
  have F : FunD K d_checked_passes.name d_checked_passes.qual d_checked_passes.params q_checked_passes.val.1 q_checked_passes.val.2 [] [] (He.fAd K d_checked_passes.at_) fd := F0
  refine ⟨_, fd, y.glo 7, F.kp, FunD.bindsN F fun _ _ _ _ _ _ us hl => match us, hl with | [_], _ => rfl, fn_okD F sc_checked_passes fun cdv A outer s H E cz => ?_⟩
  exact dss_cons (by exact ds_if (by exact dt_not (by exact dt_val (by exact de_isi (T := "tuple") (by exact de_var 0) (y.free 88) (y.free 99) (by decide)))) (by exact dss_one (by exact ds_bad)) (by exact dss_nil)) (by exact dss_cons (by exact ds_if (by exact dt_cmp (od_gt) (by exact de_bi cd_len (y.free 89) (by exact da_cons (by exact de_var 0) (by exact da_nil))) (by exact de_gint (y.int 75))) (by exact dss_one (by exact ds_bad)) (by exact dss_nil)) (by exact dss_cons (by exact ds_for cz.po cz.calm (by exact di_en (y.free 86) (by exact de_var 0)) (DL.dg (by exact dl_tup cz.calm (by exact dls_cons (by exact dl_name 1 sc_checked_passes.nd) (by exact dls_cons (by exact dl_name 2 sc_checked_passes.nd) (by exact dls_nil))))) (by exact dss_cons (by exact ds_set 3 (by exact de_cl c_row_fault cz.tk cz.room (by exact da_cons (by exact de_var 2) (by exact da_cons (by exact de_gint (y.int 76)) (by exact da_nil)))) sc_checked_passes.nd) (by exact dss_one (by exact ds_if (by exact dt_cmp (od_isn) (by exact de_var 3) (by exact de_non)) (by exact dss_one (by exact ds_bad)) (by exact dss_nil))))) (by exact dss_one (by exact ds_ret (by exact de_var 0)))))
noncomputable def b_Meter_whole : SM := sRt (eNew (eLc (iSeq (eFl ["Meter"] "its_caps" (eV 0))) (lT 2 (lCs (lN 1) (lCs (lN 2) (lNl)))) (tTt) (eV 2) [1, 2]))
noncomputable def m_Meter_whole : List D → M D := fnB 3 1 b_Meter_whole
noncomputable def q_Meter_whole : { q : List Stmt × Scope // (defBody s_Meter_whole, defScope s_Meter_whole) = q } := by
  refine ⟨?q, ?h⟩
  case h =>
    conv =>
      lhs
      congr
      · whnf
      · whnf
theorem sc_Meter_whole : FnScope ["self", "zones", "price"] ["self"] q_Meter_whole.val.2 := ⟨rfl, rfl, rfl, by decide +kernel, rfl, by decide +kernel, by decide +kernel⟩
theorem ok_Meter_whole (y : Hy fa fn K mg)   : DM P w K mg base 1 "Meter" "whole" ["self"] m_Meter_whole := by
  obtain ⟨fd, F0⟩ := y.c.def_ 25 (d := d_Meter_whole) rfl
  have F : FunD K d_Meter_whole.name d_Meter_whole.qual d_Meter_whole.params q_Meter_whole.val.1 q_Meter_whole.val.2 [] [] (He.fAd K d_Meter_whole.at_) fd := F0
  refine ⟨_, _, fd, y.glo 53, y.cls 54, y.meth 62, FunD.bindsN F fun _ _ _ _ _ _ us hl => match us, hl with | [_], _ => rfl, fn_okD F sc_Meter_whole fun cdv A outer s H E cz => ?_⟩
  exact dss_one (by exact ds_ret (by exact de_new (by exact dn_lc (own := [("zones", 1), ("price", 2)]) (sl := ([1] ++ ([2] ++ []))) cz.calm sc_Meter_whole.nd (by exact di_seq (by exact de_fld ["Meter"] (cls1 (y.clsA 53 54 56)) (by exact de_var 0))) (by refine blkOk_by ?_; (conv => lhs; arg 1; whnf); (conv => lhs; arg 2; whnf); first | decide +kernel | kernel_rfl | rfl) (by decide) (fun _ _ _ _ _ => by exact dl_tup cz.calm (by exact dls_cons (by exact dl_name 1 sc_Meter_whole.nd) (by exact dls_cons (by exact dl_name 2 sc_Meter_whole.nd) (by exact dls_nil)))) (fun _ _ _ _ _ => by exact dts_nil) (fun _ _ _ _ _ => by exact de_var 2))))
noncomputable def b_Meter___init__ : SM := sSq (sFl ["Meter"] "its_caps" (eV 0) (eCall 1 m_checked_passes (aCons (eV 1) (aNil)))) (sSq (sFl ["Meter"] "its_left" (eV 0) (eMe "Meter" "whole" 1 m_Meter_whole (eV 0) aNil)) (sSq (sAs (eTup (aCons (eNew (lim (aNil))) (aCons (eNew (lim (aNil))) (aNil)))) (gTp 2 (gCs (gFl ["Meter"] "its_rides" (eV 0)) (gCs (gFl ["Meter"] "its_charges" (eV 0)) (gNl))))) (sFl ["Meter"] "its_ends" (eV 0) (eNew (lim (aNil))))))
noncomputable def m_Meter___init__ : List D → M D := fnB 2 2 b_Meter___init__
noncomputable def q_Meter___init__ : { q : List Stmt × Scope // (defBody s_Meter___init__, defScope s_Meter___init__) = q } := by
  refine ⟨?q, ?h⟩
  case h =>
    conv =>
      lhs
      congr
      · whnf
      · whnf
theorem sc_Meter___init__ : FnScope ["self", "caps"] ["self", "caps"] q_Meter___init__.val.2 := ⟨rfl, rfl, rfl, by decide +kernel, rfl, by decide +kernel, by decide +kernel⟩
theorem ok_Meter___init__ (y : Hy fa fn K mg) (c_checked_passes : Dn P w K mg base 6 "checked_passes" ["thing"] m_checked_passes) (c_Meter_whole : DM P w K mg base 1 "Meter" "whole" ["self"] m_Meter_whole)  : DC P w K mg base 7 "Meter" ["self", "caps"] m_Meter___init__ := by
  obtain ⟨fd, F0⟩ := y.c.def_ 23 (d := d_Meter___init__) rfl
  have F : FunD K d_Meter___init__.name d_Meter___init__.qual d_Meter___init__.params q_Meter___init__.val.1 q_Meter___init__.val.2 [] [] (He.fAd K d_Meter___init__.at_) fd := F0
  refine ⟨_, _, fd, y.glo 53, y.mkr 55, FunD.bindsN F fun _ _ _ _ _ _ us hl => match us, hl with | [_, _], _ => rfl, fn_okD F sc_Meter___init__ fun cdv A outer s H E cz => ?_⟩
  exact dss_cons (by exact ds_fld ["Meter"] (cls1 (y.clsA 53 54 56)) (by exact de_var 0) (by exact de_cl c_checked_passes cz.tk cz.room (by exact da_cons (by exact de_var 1) (by exact da_nil)))) (by exact dss_cons (by exact ds_fld ["Meter"] (cls1 (y.clsA 53 54 57)) (by exact de_var 0) (by exact de_mth0 c_Meter_whole cz.tk cz.room (by exact de_var 0))) (by exact dss_cons (by exact ds_asg (by exact de_tup (by exact da_cons (by exact de_new (by exact dn_lst (by exact da_nil))) (by exact da_cons (by exact de_new (by exact dn_lst (by exact da_nil))) (by exact da_nil)))) (by exact dg_tup cz.calm (by exact dgs_cons (by exact dg_fld ["Meter"] (cls1 (y.clsA 53 54 59)) (by exact de_var 0)) (by exact dgs_cons (by exact dg_fld ["Meter"] (cls1 (y.clsA 53 54 60)) (by exact de_var 0)) (by exact dgs_nil))))) (by exact dss_one (by exact ds_fld ["Meter"] (cls1 (y.clsA 53 54 58)) (by exact de_var 0) (by exact de_new (by exact dn_lst (by exact da_nil)))))))
noncomputable def b_Meter_day_from : SM := sRt (eB sumD (aCons (eSl (eFl ["Meter"] "its_charges" (eV 0)) (pSo (eV 1)) (pSo (eV 2))) (aNil)))
noncomputable def m_Meter_day_from : List D → M D := fnB 3 3 b_Meter_day_from
noncomputable def q_Meter_day_from : { q : List Stmt × Scope // (defBody s_Meter_day_from, defScope s_Meter_day_from) = q } := by
  refine ⟨?q, ?h⟩
  case h =>
    conv =>
      lhs
      congr
      · whnf
      · whnf
theorem sc_Meter_day_from : FnScope ["self", "first", "last"] ["self", "first", "last"] q_Meter_day_from.val.2 := ⟨rfl, rfl, rfl, by decide +kernel, rfl, by decide +kernel, by decide +kernel⟩
theorem ok_Meter_day_from (y : Hy fa fn K mg)   : DM P w K mg base 1 "Meter" "day_from" ["self", "first", "last"] m_Meter_day_from := by
  obtain ⟨fd, F0⟩ := y.c.def_ 32 (d := d_Meter_day_from) rfl
  have F : FunD K d_Meter_day_from.name d_Meter_day_from.qual d_Meter_day_from.params q_Meter_day_from.val.1 q_Meter_day_from.val.2 [] [] (He.fAd K d_Meter_day_from.at_) fd := F0
  refine ⟨_, _, fd, y.glo 53, y.cls 54, y.meth 69, FunD.bindsN F fun _ _ _ _ _ _ us hl => match us, hl with | [_, _, _], _ => rfl, fn_okD F sc_Meter_day_from fun cdv A outer s H E cz => ?_⟩
  exact dss_one (by exact ds_ret (by exact de_bi (cd_sum cz.calm) (y.free 97) (by exact da_cons (by exact de_sl (by exact de_fld ["Meter"] (cls1 (y.clsA 53 54 60)) (by exact de_var 0)) (by exact dp_some (by exact de_var 1)) (by exact dp_some (by exact de_var 2))) (by exact da_nil))))
noncomputable def b_Meter_new_day : SM := sSq (sSet 1 (tIf' (tV (eFl ["Meter"] "its_ends" (eV 0))) (eO ixD (eFl ["Meter"] "its_ends" (eV 0)) (eNg (eC (.int 1)))) (eC (.int 0)))) (sSq (sEx (eMt1 appendF (eFl ["Meter"] "its_ends" (eV 0)) (aCons (eB lenD (aCons (eFl ["Meter"] "its_rides" (eV 0)) (aNil))) (aNil)))) (sSq (sFl ["Meter"] "its_left" (eV 0) (eMe "Meter" "whole" 1 m_Meter_whole (eV 0) aNil)) (sRt (eMe "Meter" "day_from" 3 m_Meter_day_from (eV 0) (aCons (eV 1) (aCons (eB lenD (aCons (eFl ["Meter"] "its_rides" (eV 0)) (aNil))) (aNil)))))))
noncomputable def m_Meter_new_day : List D → M D := fnB 2 1 b_Meter_new_day
noncomputable def q_Meter_new_day : { q : List Stmt × Scope // (defBody s_Meter_new_day, defScope s_Meter_new_day) = q } := by
  refine ⟨?q, ?h⟩
  case h =>
    conv =>
      lhs
      congr
      · whnf
      · whnf
theorem sc_Meter_new_day : FnScope ["self", "first"] ["self"] q_Meter_new_day.val.2 := ⟨rfl, rfl, rfl, by decide +kernel, rfl, by decide +kernel, by decide +kernel⟩
theorem ok_Meter_new_day (y : Hy fa fn K mg) (c_Meter_whole : DM P w K mg base 1 "Meter" "whole" ["self"] m_Meter_whole) (c_Meter_day_from : DM P w K mg base 1 "Meter" "day_from" ["self", "first", "last"] m_Meter_day_from)  : DM P w K mg base 2 "Meter" "new_day" ["self"] m_Meter_new_day := by
  obtain ⟨fd, F0⟩ := y.c.def_ 33 (d := d_Meter_new_day) rfl
  have F : FunD K d_Meter_new_day.name d_Meter_new_day.qual d_Meter_new_day.params q_Meter_new_day.val.1 q_Meter_new_day.val.2 [] [] (He.fAd K d_Meter_new_day.at_) fd := F0
  refine ⟨_, _, fd, y.glo 53, y.cls 54, y.meth 70, FunD.bindsN F fun _ _ _ _ _ _ us hl => match us, hl with | [_], _ => rfl, fn_okD F sc_Meter_new_day fun cdv A outer s H E cz => ?_⟩
  exact dss_cons (by exact ds_set 1 (by exact de_ifExp (by exact dt_val (by exact de_fld ["Meter"] (cls1 (y.clsA 53 54 58)) (by exact de_var 0))) (by exact de_ix (by exact de_fld ["Meter"] (cls1 (y.clsA 53 54 58)) (by exact de_var 0)) (by exact de_neg (by exact de_int))) (by exact de_int)) sc_Meter_new_day.nd) (by exact dss_cons (by exact ds_expr (by exact de_mt PySem.F.slot_list_append PySem.F.type_list_append ml_append (by exact de_fld ["Meter"] (cls1 (y.clsA 53 54 58)) (by exact de_var 0)) (by exact da_cons (by exact de_bi cd_len (y.free 89) (by exact da_cons (by exact de_fld ["Meter"] (cls1 (y.clsA 53 54 59)) (by exact de_var 0)) (by exact da_nil))) (by exact da_nil)))) (by exact dss_cons (by exact ds_fld ["Meter"] (cls1 (y.clsA 53 54 57)) (by exact de_var 0) (by exact de_mth0 c_Meter_whole cz.tk cz.room (by exact de_var 0))) (by exact dss_one (by exact ds_ret (by exact de_mth c_Meter_day_from cz.tk cz.room (by exact de_var 0) (by exact da_cons (by exact de_var 1) (by exact da_cons (by exact de_bi cd_len (y.free 89) (by exact da_cons (by exact de_fld ["Meter"] (cls1 (y.clsA 53 54 59)) (by exact de_var 0)) (by exact da_nil))) (by exact da_nil))))))))
noncomputable def b_Meter_would : SM := sSq (sIf (tB' (eO eqD (eB lenD (aCons (eFl ["Meter"] "its_rides" (eV 0)) (aNil))) (eC (.int 2000)))) (sBd) (sNx)) (sSq (sSet 2 (eCall 2 m_row_fault (aCons (eV 1) (aCons (eC (.int 1000000)) (aNil))))) (sSq (sIf (tB' (eO isnD (eV 2) (eC .non))) (sBd) (sNx)) (sRt (eB minD (aCons (eFrz (lim (aCons (eO ixD (eV 1) (eC (.int 1))) (aStar (eFrz (eLc (iSeq (eCall 2 m_who_holds (aCons (eFl ["Meter"] "its_caps" (eV 0)) (aCons (eV 1) (aNil))))) (lN 3) (tTt) (eO ixD (eFl ["Meter"] "its_left" (eV 0)) (eV 3)) [3])) (aNil))))) (aNil))))))
noncomputable def m_Meter_would : List D → M D := fnB 4 2 b_Meter_would
noncomputable def q_Meter_would : { q : List Stmt × Scope // (defBody s_Meter_would, defScope s_Meter_would) = q } := by
  refine ⟨?q, ?h⟩
  case h =>
    conv =>
      lhs
      congr
      · whnf
      · whnf
theorem sc_Meter_would : FnScope ["self", "ride", "fault", "index"] ["self", "ride"] q_Meter_would.val.2 := ⟨rfl, rfl, rfl, by decide +kernel, rfl, by decide +kernel, by decide +kernel⟩
theorem ok_Meter_would (y : Hy fa fn K mg) (c_row_fault : Dn P w K mg base 5 "row_fault" ["thing", "most"] m_row_fault) (c_who_holds : Dn P w K mg base 3 "who_holds" ["passes", "ride"] m_who_holds)  : DM P w K mg base 6 "Meter" "would" ["self", "ride"] m_Meter_would := by
  obtain ⟨fd, F0⟩ := y.c.def_ 26 (d := d_Meter_would) rfl
  have F : FunD K d_Meter_would.name d_Meter_would.qual d_Meter_would.params q_Meter_would.val.1 q_Meter_would.val.2 [] [] (He.fAd K d_Meter_would.at_) fd := F0
  refine ⟨_, _, fd, y.glo 53, y.cls 54, y.meth 63, FunD.bindsN F fun _ _ _ _ _ _ us hl => match us, hl with | [_, _], _ => rfl, fn_okD F sc_Meter_would fun cdv A outer s H E cz => ?_⟩
  exact dss_cons (by exact ds_if (by exact dt_cmp (od_eq cz.hu) (by exact de_bi cd_len (y.free 89) (by exact da_cons (by exact de_fld ["Meter"] (cls1 (y.clsA 53 54 59)) (by exact de_var 0)) (by exact da_nil))) (by exact de_gint (y.int 81))) (by exact dss_one (by exact ds_bad)) (by exact dss_nil)) (by exact dss_cons (by exact ds_set 2 (by exact de_cl c_row_fault cz.tk cz.room (by exact da_cons (by exact de_var 1) (by exact da_cons (by exact de_gint (y.int 74)) (by exact da_nil)))) sc_Meter_would.nd) (by exact dss_cons (by exact ds_if (by exact dt_cmp (od_isn) (by exact de_var 2) (by exact de_non)) (by exact dss_one (by exact ds_bad)) (by exact dss_nil)) (by exact dss_one (by exact ds_ret (by exact de_bi (cd_min cz.calm) (y.free 92) (by exact da_cons (by exact de_frz (by exact dn_lst (by exact da_cons (by exact de_ix (by exact de_var 1) (by exact de_int)) (by exact da_star (by exact de_frz (by exact dn_lc (own := [("index", 3)]) (sl := [3]) cz.calm sc_Meter_would.nd (by exact di_seq (by exact de_cl c_who_holds cz.tk cz.room (by exact da_cons (by exact de_fld ["Meter"] (cls1 (y.clsA 53 54 56)) (by exact de_var 0)) (by exact da_cons (by exact de_var 1) (by exact da_nil))))) (by refine blkOk_by ?_; (conv => lhs; arg 1; whnf); (conv => lhs; arg 2; whnf); first | decide +kernel | kernel_rfl | rfl) (by decide) (fun _ _ _ _ _ => by exact dl_name 3 sc_Meter_would.nd) (fun _ _ _ _ _ => by exact dts_nil) (fun _ _ _ _ _ => by exact de_ix (by exact de_fld ["Meter"] (cls1 (y.clsA 53 54 57)) (by exact de_var 0)) (by exact de_var 3)))) (by exact da_nil))))) (by exact da_nil)))))))
noncomputable def b_Meter_tap : SM := sSq (sSet 2 (eMe "Meter" "would" 2 m_Meter_would (eV 0) (aCons (eV 1) (aNil)))) (sSq (sFor (iSeq (eCall 2 m_who_holds (aCons (eFl ["Meter"] "its_caps" (eV 0)) (aCons (eV 1) (aNil))))) (gL (lN 3)) (sAuS subD (eFl ["Meter"] "its_left" (eV 0)) (eV 3) (eV 2))) (sSq (sEx (eMt1 appendF (eFl ["Meter"] "its_rides" (eV 0)) (aCons (eV 1) (aNil)))) (sSq (sEx (eMt1 appendF (eFl ["Meter"] "its_charges" (eV 0)) (aCons (eV 2) (aNil)))) (sRt (eV 2)))))
noncomputable def m_Meter_tap : List D → M D := fnB 4 2 b_Meter_tap
noncomputable def q_Meter_tap : { q : List Stmt × Scope // (defBody s_Meter_tap, defScope s_Meter_tap) = q } := by
  refine ⟨?q, ?h⟩
  case h =>
    conv =>
      lhs
      congr
      · whnf
      · whnf
theorem sc_Meter_tap : FnScope ["self", "ride", "cents", "index"] ["self", "ride"] q_Meter_tap.val.2 := ⟨rfl, rfl, rfl, by decide +kernel, rfl, by decide +kernel, by decide +kernel⟩
theorem ok_Meter_tap (y : Hy fa fn K mg) (c_Meter_would : DM P w K mg base 6 "Meter" "would" ["self", "ride"] m_Meter_would) (c_who_holds : Dn P w K mg base 3 "who_holds" ["passes", "ride"] m_who_holds)  : DM P w K mg base 7 "Meter" "tap" ["self", "ride"] m_Meter_tap := by
  obtain ⟨fd, F0⟩ := y.c.def_ 27 (d := d_Meter_tap) rfl
  have F : FunD K d_Meter_tap.name d_Meter_tap.qual d_Meter_tap.params q_Meter_tap.val.1 q_Meter_tap.val.2 [] [] (He.fAd K d_Meter_tap.at_) fd := F0
  refine ⟨_, _, fd, y.glo 53, y.cls 54, y.meth 64, FunD.bindsN F fun _ _ _ _ _ _ us hl => match us, hl with | [_, _], _ => rfl, fn_okD F sc_Meter_tap fun cdv A outer s H E cz => ?_⟩
  exact dss_cons (by exact ds_set 2 (by exact de_mth c_Meter_would cz.tk cz.room (by exact de_var 0) (by exact da_cons (by exact de_var 1) (by exact da_nil))) sc_Meter_tap.nd) (by exact dss_cons (by exact ds_for cz.po cz.calm (by exact di_seq (by exact de_cl c_who_holds cz.tk cz.room (by exact da_cons (by exact de_fld ["Meter"] (cls1 (y.clsA 53 54 56)) (by exact de_var 0)) (by exact da_cons (by exact de_var 1) (by exact da_nil))))) (DL.dg (by exact dl_name 3 sc_Meter_tap.nd)) (by exact dss_one (by exact ds_augS od_isub (by exact de_fld ["Meter"] (cls1 (y.clsA 53 54 57)) (by exact de_var 0)) (by exact de_var 3) (by exact de_var 2)))) (by exact dss_cons (by exact ds_expr (by exact de_mt PySem.F.slot_list_append PySem.F.type_list_append ml_append (by exact de_fld ["Meter"] (cls1 (y.clsA 53 54 59)) (by exact de_var 0)) (by exact da_cons (by exact de_var 1) (by exact da_nil)))) (by exact dss_cons (by exact ds_expr (by exact de_mt PySem.F.slot_list_append PySem.F.type_list_append ml_append (by exact de_fld ["Meter"] (cls1 (y.clsA 53 54 60)) (by exact de_var 0)) (by exact da_cons (by exact de_var 2) (by exact da_nil)))) (by exact dss_one (by exact ds_ret (by exact de_var 2))))))
noncomputable def b__law_is_printed : SM := sSq (sPar 2 3 (eMk "Meter" 2 m_Meter___init__ (aCons (eV 0) (aNil))) (eC (.int 0))) (sSq (sFor (iSeq (eV 1)) (gL (lN 4)) (sIf (tB' (eO eqD (eO ixD (eV 4) (eC (.int 0))) (eC (.str "day")))) (sSq (sEx (eMe "Meter" "new_day" 1 m_Meter_new_day (eV 2) aNil)) (sSet 3 (eC (.int 0)))) (sIf (tB' (eO eqD (eO ixD (eV 4) (eC (.int 0))) (eC (.str "ride")))) (sSq (sSet 5 (eMe "Meter" "tap" 2 m_Meter_tap (eV 2) (aCons (eO ixD (eV 4) (eC (.int 1))) (aNil)))) (sSq (sAug 3 iaddD (eV 5)) (sIf (tB' (eO neD (eV 5) (eO ixD (eV 4) (eC (.int 2))))) (sRt (eC (.bl false))) (sNx)))) (sIf (tB' (eO neD (eO ixD (eV 4) (eC (.int 1))) (eV 3))) (sRt (eC (.bl false))) (sNx))))) (sRt (eC (.bl true))))
noncomputable def m__law_is_printed : List D → M D := fnB 6 2 b__law_is_printed
noncomputable def q__law_is_printed : { q : List Stmt × Scope // (defBody s__law_is_printed, defScope s__law_is_printed) = q } := by
  refine ⟨?q, ?h⟩
  case h =>
    conv =>
      lhs
      congr
      · whnf
      · whnf
theorem sc__law_is_printed : FnScope ["caps", "record", "meter", "money", "line", "charge"] ["caps", "record"] q__law_is_printed.val.2 := ⟨rfl, rfl, rfl, by decide +kernel, rfl, by decide +kernel, by decide +kernel⟩
theorem ok__law_is_printed (y : Hy fa fn K mg) (c_Meter___init__ : DC P w K mg base 7 "Meter" ["self", "caps"] m_Meter___init__) (c_Meter_new_day : DM P w K mg base 2 "Meter" "new_day" ["self"] m_Meter_new_day) (c_Meter_tap : DM P w K mg base 7 "Meter" "tap" ["self", "ride"] m_Meter_tap)  : Dn P w K mg base 9 "_law_is_printed" ["caps", "record"] m__law_is_printed := by
  obtain ⟨fd, F0⟩ := y.c.def_ 59 (d := d__law_is_printed) rfl
  have F : FunD K d__law_is_printed.name d__law_is_printed.qual d__law_is_printed.params q__law_is_printed.val.1 q__law_is_printed.val.2 [] [] (He.fAd K d__law_is_printed.at_) fd := F0
  refine ⟨_, fd, y.glo 40, F.kp, FunD.bindsN F fun _ _ _ _ _ _ us hl => match us, hl with | [_, _], _ => rfl, fn_okD F sc__law_is_printed fun cdv A outer s H E cz => ?_⟩
  exact dss_cons (by exact ds_par 2 3 (by exact de_mkc c_Meter___init__ cz.tk cz.room (by exact da_cons (by exact de_var 0) (by exact da_nil))) (by exact de_int) cz.calm sc__law_is_printed.nd) (by exact dss_cons (by exact ds_for cz.po cz.calm (by exact di_seq (by exact de_var 1)) (DL.dg (by exact dl_name 4 sc__law_is_printed.nd)) (by exact dss_one (by exact ds_if (by exact dt_cmp (od_eq cz.hu) (by exact de_ix (by exact de_var 4) (by exact de_int)) (by exact de_str)) (by exact dss_cons (by exact ds_expr (by exact de_mth0 c_Meter_new_day cz.tk cz.room (by exact de_var 2))) (by exact dss_one (by exact ds_set 3 (by exact de_int) sc__law_is_printed.nd))) (by exact dss_one (by exact ds_if (by exact dt_cmp (od_eq cz.hu) (by exact de_ix (by exact de_var 4) (by exact de_int)) (by exact de_str)) (by exact dss_cons (by exact ds_set 5 (by exact de_mth c_Meter_tap cz.tk cz.room (by exact de_var 2) (by exact da_cons (by exact de_ix (by exact de_var 4) (by exact de_int)) (by exact da_nil))) sc__law_is_printed.nd) (by exact dss_cons (by exact ds_aug 3 od_iadd (by exact de_var 5) sc__law_is_printed.nd) (by exact dss_one (by exact ds_if (by exact dt_cmp (od_ne cz.hu) (by exact de_var 5) (by exact de_ix (by exact de_var 4) (by exact de_int))) (by exact dss_one (by exact ds_ret (by exact de_bl))) (by exact dss_nil))))) (by exact dss_one (by exact ds_if (by exact dt_cmp (od_ne cz.hu) (by exact de_ix (by exact de_var 4) (by exact de_int)) (by exact de_var 3)) (by exact dss_one (by exact ds_ret (by exact de_bl))) (by exact dss_nil)))))))) (by exact dss_one (by exact ds_ret (by exact de_bl))))
noncomputable def b_law : SM := sSq (sSet 1 (eCall 1 m__law_bag (aCons (eV 0) (aNil)))) (sSq (sFor (iRg1 (eC (.int 4))) (gL (lN 2)) (sSq (sSet 3 (eCall 4 m__law_passes (aCons (eV 1) (aCons (eC (.int 4)) (aCons (eC (.int 4)) (aCons (eC (.int 9)) (aNil))))))) (sSq (sSet 4 (eCall 3 m__law_record (aCons (eV 1) (aCons (eV 3) (aCons (eC (.int 10)) (aNil)))))) (sSq (sSet 5 (eFrz (lim (aCons (eTup (aCons (eC (.str "ride")) (aCons (eTup (aCons (eTup (aCons (eC (.int 1)) (aNil))) (aCons (eC (.int 5)) (aNil)))) (aNil)))) (aCons (eTup (aCons (eC (.str "ride")) (aCons (eTup (aCons (eTup (aCons (eC (.int 9)) (aNil))) (aCons (eC (.int 5)) (aNil)))) (aCons (eC (.int 5)) (aNil))))) (aCons (eTup (aCons (eC (.str "ride")) (aCons (eTup (aCons (eTup (aCons (eC (.int 1)) (aNil))) (aCons (eNg (eC (.int 1))) (aNil)))) (aCons (eC (.int 0)) (aNil))))) (aCons (eTup (aCons (eC (.str "count")) (aNil))) (aCons (eTup (aCons (eC (.str "count")) (aCons (eC (.bl true)) (aNil)))) (aCons (eTup (aCons (eC (.str "day")) (aCons (eC (.int 1)) (aNil)))) (aCons (eTup (aCons (eC (.str "nosuch")) (aNil))) (aCons (eTup (aNil)) (aCons (eFrz (lim (aCons (eC (.str "day")) (aNil)))) (aCons (eTup (aCons (eC (.str "ride")) (aCons (eTup (aCons (eTup (aCons (eC (.int 1)) (aNil))) (aCons (eC (.int 5)) (aNil)))) (aCons (eC (.str "5")) (aNil))))) (aNil)))))))))))))) (sSq (sSet 6 (eFrz (lim (aCons (eV 4) (aCons (eFrz (nB listD (aCons (eV 4) (aNil)))) (aCons (eO addD (eV 4) (eTup (aCons (eCall 2 m__law_some (aCons (eV 1) (aCons (eV 5) (aNil)))) (aNil)))) (aCons (eO mulD (eTup (aCons (eTup (aCons (eC (.str "day")) (aNil))) (aNil))) (eC (.int 200))) (aCons (eO mulD (eTup (aCons (eTup (aCons (eC (.str "day")) (aNil))) (aNil))) (eC (.int 201))) (aCons (eO mulD (eTup (aCons (eC (.int 5)) (aNil))) (eC (.int 201))) (aCons (eCall 1 m__law_odd (aCons (eV 1) (aNil))) (aNil))))))))))) (sSq (sFor (iSeq (eO addD (eV 6) (eFrz (eLc (iRg1 (eC (.int 4))) (lN 13) (tTt) (eCall 3 m__law_bent (aCons (eV 1) (aCons (eV 4) (aCons (eC (.int 4)) (aNil))))) [13])))) (gL (lN 7)) (sSq (sSet 8 (eB reprD (aCons (eV 7) (aNil)))) (sSq (sSet 9 (tIf' (tIf' (tV (eCall 1 m__law_record_form (aCons (eV 7) (aNil)))) (tB' (eO leD (eB lenD (aCons (eV 7) (aNil))) (eC (.int 200)))) tFf) (eTup (aCons (eC (.str "told")) (aCons (eV 7) (aNil)))) (eTup (aCons (eC (.str "bad")) (aCons (eC (.str "form")) (aNil)))))) (sSq (sIf (tIf' (tV (eIs ["tuple"] (eV 7))) (tB' (eO gtD (eB lenD (aCons (eV 7) (aNil))) (eC (.int 200)))) tFf) (sSet 9 (eTup (aCons (eC (.str "bad")) (aCons (eC (.str "many")) (aNil))))) (sNx)) (sIf (tIf' (tNo (tV (eCall 2 m__law_alike (aCons (eCall 1 m__law_heard (aCons (eV 7) (aNil))) (aCons (eV 9) (aNil)))))) tTt (tB' (eO neS (eB reprD (aCons (eV 7) (aNil))) (eV 8)))) (sRt (eC (.bl false))) (sNx)))))) (sSq (sSet 10 (eNew (lim (aNil)))) (sSq (sFor (iRg1 (eB lenD (aCons (eV 4) (aNil)))) (gL (lN 11)) (sSq (sSet 12 (eFrz (lim (aCons (eCall 3 m_left_at (aCons (eV 3) (aCons (eV 4) (aCons (eV 11) (aNil))))) (aCons (eCall 3 m_money_at (aCons (eV 3) (aCons (eV 4) (aCons (eV 11) (aNil))))) (aCons (eCall 3 m_word_at (aCons (eV 3) (aCons (eV 4) (aCons (eV 11) (aNil))))) (aNil))))))) (sSq (sEx (eMt1 appendF (eV 10) (aCons (eCall 3 m__law_word (aCons (eV 3) (aCons (eV 4) (aCons (eV 11) (aNil))))) (aNil)))) (sIf (tNo (tV (eCall 2 m__law_alike (aCons (eV 12) (aCons (eFrz (lim (aCons (eB tupleD (aCons (eCall 3 m__law_left (aCons (eV 3) (aCons (eV 4) (aCons (eV 11) (aNil))))) (aNil))) (aCons (eCall 2 m__law_money (aCons (eV 4) (aCons (eV 11) (aNil)))) (aCons (eO ixD (eV 10) (eNg (eC (.int 1)))) (aNil)))))) (aNil)))))) (sRt (eC (.bl false))) (sNx))))) (sIf (tB' (eO neD (eCall 2 m__law_is_printed (aCons (eV 3) (aCons (eV 4) (aNil)))) (eO eqD (eV 10) (eO mulD (eFrz (lim (aCons (eC .non) (aNil)))) (eB lenD (aCons (eV 4) (aNil))))))) (sRt (eC (.bl false))) (sNx)))))))))) (sRt (eC (.bl true))))
noncomputable def m_law : List D → M D := fnB 14 1 b_law
noncomputable def q_law : { q : List Stmt × Scope // (defBody s_law, defScope s_law) = q } := by
  refine ⟨?q, ?h⟩
  case h =>
    conv =>
      lhs
      congr
      · whnf
      · whnf
theorem sc_law : FnScope ["script", "bag", "turn", "caps", "record", "strange", "things", "thing", "shown", "due", "words", "index", "told", "k"] ["script"] q_law.val.2 := ⟨rfl, rfl, rfl, by decide +kernel, rfl, by decide +kernel, by decide +kernel⟩
theorem okL (y : Hy fa fn K mg) (c__law_bag : Dn P w K mg base 1 "_law_bag" ["script"] m__law_bag) (c__law_passes : Dn P w K mg base 5 "_law_passes" ["bag", "many", "most", "price"] m__law_passes) (c__law_record : Dn P w K mg base 5 "_law_record" ["bag", "caps", "many"] m__law_record) (c__law_odd : Dn P w K mg base 3 "_law_odd" ["bag"] m__law_odd) (c__law_some : Dn P w K mg base 2 "_law_some" ["bag", "things"] m__law_some) (c__law_bent : Dn P w K mg base 9 "_law_bent" ["bag", "thing", "deep"] m__law_bent) (c__law_record_form : Dn P w K mg base 5 "_law_record_form" ["thing"] m__law_record_form) (c__law_alike : Dn P w K mg base 1 "_law_alike" ["found", "due"] m__law_alike) (c__law_heard : Dn P w K mg base 8 "_law_heard" ["thing"] m__law_heard) (c_word_at : Dn P w K mg base 6 "word_at" ["caps", "record", "index"] m_word_at) (c_money_at : Dn P w K mg base 6 "money_at" ["caps", "record", "index"] m_money_at) (c_left_at : Dn P w K mg base 6 "left_at" ["caps", "record", "index"] m_left_at) (c__law_word : Dn P w K mg base 4 "_law_word" ["caps", "record", "index"] m__law_word) (c__law_money : Dn P w K mg base 1 "_law_money" ["record", "index"] m__law_money) (c__law_left : Dn P w K mg base 2 "_law_left" ["caps", "record", "index"] m__law_left) (c__law_is_printed : Dn P w K mg base 9 "_law_is_printed" ["caps", "record"] m__law_is_printed) {fd : FuncData} (F : FunD K d_law.name d_law.qual d_law.params q_law.val.1 q_law.val.2 [] [] (He.fAd K d_law.at_) fd) : RunC P w K mg base (L2.CX P w) (He.ga K "law") fd ["script"] (spD K mg 1 m_law) := by
  refine run_okD (k := 9) F sc_law ⟨rfl, by decide, by decide⟩ fun cdv s H E cz gd => ?_
  exact dss_cons (by exact ds_set 1 (by exact de_cl c__law_bag cz.tk cz.room (by exact da_cons (by exact de_var 0) (by exact da_nil))) sc_law.nd) (by exact dss_cons (by exact ds_for cz.po cz.calm (by exact di_r1 (y.free 93) (by exact de_int)) (DL.dg (by exact dl_name 2 sc_law.nd)) (by exact dss_cons (by exact ds_set 3 (by exact de_cl c__law_passes cz.tk cz.room (by exact da_cons (by exact de_var 1) (by exact da_cons (by exact de_int) (by exact da_cons (by exact de_int) (by exact da_cons (by exact de_int) (by exact da_nil)))))) sc_law.nd) (by exact dss_cons (by exact ds_set 4 (by exact de_cl c__law_record cz.tk cz.room (by exact da_cons (by exact de_var 1) (by exact da_cons (by exact de_var 3) (by exact da_cons (by exact de_int) (by exact da_nil))))) sc_law.nd) (by exact dss_cons (by exact ds_set 5 (by exact de_frz (by exact dn_lst (by exact da_cons (by exact de_tup (by exact da_cons (by exact de_str) (by exact da_cons (by exact de_tup (by exact da_cons (by exact de_tup (by exact da_cons (by exact de_int) (by exact da_nil))) (by exact da_cons (by exact de_int) (by exact da_nil)))) (by exact da_nil)))) (by exact da_cons (by exact de_tup (by exact da_cons (by exact de_str) (by exact da_cons (by exact de_tup (by exact da_cons (by exact de_tup (by exact da_cons (by exact de_int) (by exact da_nil))) (by exact da_cons (by exact de_int) (by exact da_nil)))) (by exact da_cons (by exact de_int) (by exact da_nil))))) (by exact da_cons (by exact de_tup (by exact da_cons (by exact de_str) (by exact da_cons (by exact de_tup (by exact da_cons (by exact de_tup (by exact da_cons (by exact de_int) (by exact da_nil))) (by exact da_cons (by exact de_neg (by exact de_int)) (by exact da_nil)))) (by exact da_cons (by exact de_int) (by exact da_nil))))) (by exact da_cons (by exact de_tup (by exact da_cons (by exact de_str) (by exact da_nil))) (by exact da_cons (by exact de_tup (by exact da_cons (by exact de_str) (by exact da_cons (by exact de_bl) (by exact da_nil)))) (by exact da_cons (by exact de_tup (by exact da_cons (by exact de_str) (by exact da_cons (by exact de_int) (by exact da_nil)))) (by exact da_cons (by exact de_tup (by exact da_cons (by exact de_str) (by exact da_nil))) (by exact da_cons (by exact de_tup (by exact da_nil)) (by exact da_cons (by exact de_frz (by exact dn_lst (by exact da_cons (by exact de_str) (by exact da_nil)))) (by exact da_cons (by exact de_tup (by exact da_cons (by exact de_str) (by exact da_cons (by exact de_tup (by exact da_cons (by exact de_tup (by exact da_cons (by exact de_int) (by exact da_nil))) (by exact da_cons (by exact de_int) (by exact da_nil)))) (by exact da_cons (by exact de_str) (by exact da_nil))))) (by exact da_nil))))))))))))) sc_law.nd) (by exact dss_cons (by exact ds_set 6 (by exact de_frz (by exact dn_lst (by exact da_cons (by exact de_var 4) (by exact da_cons (by exact de_frz (by exact dn_ty cn_list (y.free 90) (by exact da_cons (by exact de_var 4) (by exact da_nil)))) (by exact da_cons (by exact de_op od_add (by exact de_var 4) (by exact de_tup (by exact da_cons (by exact de_cl c__law_some cz.tk cz.room (by exact da_cons (by exact de_var 1) (by exact da_cons (by exact de_var 5) (by exact da_nil)))) (by exact da_nil)))) (by exact da_cons (by exact de_op od_mul (by exact de_tup (by exact da_cons (by exact de_tup (by exact da_cons (by exact de_str) (by exact da_nil))) (by exact da_nil))) (by exact de_int)) (by exact da_cons (by exact de_op od_mul (by exact de_tup (by exact da_cons (by exact de_tup (by exact da_cons (by exact de_str) (by exact da_nil))) (by exact da_nil))) (by exact de_int)) (by exact da_cons (by exact de_op od_mul (by exact de_tup (by exact da_cons (by exact de_int) (by exact da_nil))) (by exact de_int)) (by exact da_cons (by exact de_cl c__law_odd cz.tk cz.room (by exact da_cons (by exact de_var 1) (by exact da_nil))) (by exact da_nil)))))))))) sc_law.nd) (by exact dss_cons (by exact ds_for cz.po cz.calm (by exact di_seq (by exact de_op od_add (by exact de_var 6) (by exact de_frz (by exact dn_lc (own := [("k", 13)]) (sl := [13]) cz.calm sc_law.nd (by exact di_r1 (y.free 93) (by exact de_int)) (by refine blkOk_by ?_; (conv => lhs; arg 1; whnf); (conv => lhs; arg 2; whnf); first | decide +kernel | kernel_rfl | rfl) (by decide) (fun _ _ _ _ _ => by exact dl_name 13 sc_law.nd) (fun _ _ _ _ _ => by exact dts_nil) (fun _ _ _ _ _ => by exact de_cl c__law_bent tkz cz.room (by exact da_cons (by exact de_var 1) (by exact da_cons (by exact de_var 4) (by exact da_cons (by exact de_int) (by exact da_nil))))))))) (DL.dg (by exact dl_name 7 sc_law.nd)) (by exact dss_cons (by exact ds_set 8 (by exact de_bi (cd_repr gd cz.hu) (y.free 94) (by exact da_cons (by exact de_var 7) (by exact da_nil))) sc_law.nd) (by exact dss_cons (by exact ds_set 9 (by exact de_ifExp (by exact DW.dt (by exact dw_and (by exact dt_val (by exact de_cl c__law_record_form cz.tk cz.room (by exact da_cons (by exact de_var 7) (by exact da_nil)))) (by exact dw_and1 (by exact dt_cmp (od_le) (by exact de_bi cd_len (y.free 89) (by exact da_cons (by exact de_var 7) (by exact da_nil))) (by exact de_int))))) (by exact de_tup (by exact da_cons (by exact de_str) (by exact da_cons (by exact de_var 7) (by exact da_nil)))) (by exact de_tup (by exact da_cons (by exact de_str) (by exact da_cons (by exact de_str) (by exact da_nil))))) sc_law.nd) (by exact dss_cons (by exact ds_if (by exact DW.dt (by exact dw_and (by exact dt_val (by exact de_isi (T := "tuple") (by exact de_var 7) (y.free 88) (y.free 99) (by decide))) (by exact dw_and1 (by exact dt_cmp (od_gt) (by exact de_bi cd_len (y.free 89) (by exact da_cons (by exact de_var 7) (by exact da_nil))) (by exact de_int))))) (by exact dss_one (by exact ds_set 9 (by exact de_tup (by exact da_cons (by exact de_str) (by exact da_cons (by exact de_str) (by exact da_nil)))) sc_law.nd)) (by exact dss_nil)) (by exact dss_one (by exact ds_if (by exact DW.dt (by exact dw_or (by exact dt_not (by exact dt_val (by exact de_cl c__law_alike cz.tk cz.room (by exact da_cons (by exact de_cl c__law_heard cz.tk cz.room (by exact da_cons (by exact de_var 7) (by exact da_nil))) (by exact da_cons (by exact de_var 9) (by exact da_nil)))))) (by exact dw_or1 (by exact dt_cmp (od_neS) (by exact de_bi (cd_repr gd cz.hu) (y.free 94) (by exact da_cons (by exact de_var 7) (by exact da_nil))) (by exact de_var 8))))) (by exact dss_one (by exact ds_ret (by exact de_bl))) (by exact dss_nil))))))) (by exact dss_cons (by exact ds_set 10 (by exact de_new (by exact dn_lst (by exact da_nil))) sc_law.nd) (by exact dss_cons (by exact ds_for cz.po cz.calm (by exact di_r1 (y.free 93) (by exact de_bi cd_len (y.free 89) (by exact da_cons (by exact de_var 4) (by exact da_nil)))) (DL.dg (by exact dl_name 11 sc_law.nd)) (by exact dss_cons (by exact ds_set 12 (by exact de_frz (by exact dn_lst (by exact da_cons (by exact de_cl c_left_at cz.tk cz.room (by exact da_cons (by exact de_var 3) (by exact da_cons (by exact de_var 4) (by exact da_cons (by exact de_var 11) (by exact da_nil))))) (by exact da_cons (by exact de_cl c_money_at cz.tk cz.room (by exact da_cons (by exact de_var 3) (by exact da_cons (by exact de_var 4) (by exact da_cons (by exact de_var 11) (by exact da_nil))))) (by exact da_cons (by exact de_cl c_word_at cz.tk cz.room (by exact da_cons (by exact de_var 3) (by exact da_cons (by exact de_var 4) (by exact da_cons (by exact de_var 11) (by exact da_nil))))) (by exact da_nil)))))) sc_law.nd) (by exact dss_cons (by exact ds_expr (by exact de_mt PySem.F.slot_list_append PySem.F.type_list_append ml_append (by exact de_var 10) (by exact da_cons (by exact de_cl c__law_word cz.tk cz.room (by exact da_cons (by exact de_var 3) (by exact da_cons (by exact de_var 4) (by exact da_cons (by exact de_var 11) (by exact da_nil))))) (by exact da_nil)))) (by exact dss_one (by exact ds_if (by exact dt_not (by exact dt_val (by exact de_cl c__law_alike cz.tk cz.room (by exact da_cons (by exact de_var 12) (by exact da_cons (by exact de_frz (by exact dn_lst (by exact da_cons (by exact de_ty cd_tuple (y.free 99) (by exact da_cons (by exact de_cl c__law_left cz.tk cz.room (by exact da_cons (by exact de_var 3) (by exact da_cons (by exact de_var 4) (by exact da_cons (by exact de_var 11) (by exact da_nil))))) (by exact da_nil))) (by exact da_cons (by exact de_cl c__law_money cz.tk cz.room (by exact da_cons (by exact de_var 4) (by exact da_cons (by exact de_var 11) (by exact da_nil)))) (by exact da_cons (by exact de_ix (by exact de_var 10) (by exact de_neg (by exact de_int))) (by exact da_nil)))))) (by exact da_nil)))))) (by exact dss_one (by exact ds_ret (by exact de_bl))) (by exact dss_nil)))))) (by exact dss_one (by exact ds_if (by exact dt_cmp (od_ne cz.hu) (by exact de_cl c__law_is_printed cz.tk cz.room (by exact da_cons (by exact de_var 3) (by exact da_cons (by exact de_var 4) (by exact da_nil)))) (by exact de_cmp (od_eq cz.hu) (by exact de_var 10) (by exact de_op od_mul (by exact de_frz (by exact dn_lst (by exact da_cons (by exact de_non) (by exact da_nil)))) (by exact de_bi cd_len (y.free 89) (by exact da_cons (by exact de_var 4) (by exact da_nil)))))) (by exact dss_one (by exact ds_ret (by exact de_bl))) (by exact dss_nil))))))))))) (by exact dss_one (by exact ds_ret (by exact de_bl))))
theorem ok_chain (y : Hy fa fn K mg) (t_BadLog : DX P w K mg base file x_BadLog) {fd : FuncData} (F : FunD K d_law.name d_law.qual d_law.params q_law.val.1 q_law.val.2 [] [] (He.fAd K d_law.at_) fd) : RunC P w K mg base (L2.CX P w) (He.ga K "law") fd ["script"] (spD K mg 1 m_law) := by
  have c__law_bag : Dn P w K mg base 1 "_law_bag" ["script"] m__law_bag := ok__law_bag y 
  have c__law_take : Dn P w K mg base 1 "_law_take" ["bag", "many"] m__law_take := ok__law_take y 
  have c__law_mixed : Dn P w K mg base 2 "_law_mixed" ["bag", "things"] m__law_mixed := ok__law_mixed y c__law_take
  have c__law_zones : Dn P w K mg base 3 "_law_zones" ["bag", "most"] m__law_zones := ok__law_zones y c__law_mixed c__law_take
  have c__law_ride : Dn P w K mg base 4 "_law_ride" ["bag", "most", "price"] m__law_ride := ok__law_ride y c__law_take c__law_zones
  have c__law_passes : Dn P w K mg base 5 "_law_passes" ["bag", "many", "most", "price"] m__law_passes := ok__law_passes y c__law_take c__law_ride
  have c__law_money : Dn P w K mg base 1 "_law_money" ["record", "index"] m__law_money := ok__law_money y 
  have c__law_some : Dn P w K mg base 2 "_law_some" ["bag", "things"] m__law_some := ok__law_some y c__law_take
  have c__law_holds : Dn P w K mg base 1 "_law_holds" ["zones", "ride"] m__law_holds := ok__law_holds y 
  have c__law_left : Dn P w K mg base 2 "_law_left" ["caps", "record", "index"] m__law_left := ok__law_left y c__law_holds
  have c__law_due : Dn P w K mg base 3 "_law_due" ["caps", "record", "index"] m__law_due := ok__law_due y c__law_left c__law_holds
  have c__law_record : Dn P w K mg base 5 "_law_record" ["bag", "caps", "many"] m__law_record := ok__law_record y c__law_take c__law_money c__law_some c__law_ride c__law_due
  have c__law_odd : Dn P w K mg base 3 "_law_odd" ["bag"] m__law_odd := ok__law_odd y c__law_some
  have e0__law_bent : Dn P w K mg base 4 "_law_bent" ["bag", "thing", "deep"] (mf__law_bent 0) := ok0__law_bent y c__law_take c__law_some c__law_odd
  have e1__law_bent : Dn P w K mg base 5 "_law_bent" ["bag", "thing", "deep"] (mf__law_bent 1) := okS__law_bent y c__law_take c__law_some c__law_odd (by decide) e0__law_bent
  have e2__law_bent : Dn P w K mg base 6 "_law_bent" ["bag", "thing", "deep"] (mf__law_bent 2) := okS__law_bent y c__law_take c__law_some c__law_odd (by decide) e1__law_bent
  have e3__law_bent : Dn P w K mg base 7 "_law_bent" ["bag", "thing", "deep"] (mf__law_bent 3) := okS__law_bent y c__law_take c__law_some c__law_odd (by decide) e2__law_bent
  have e4__law_bent : Dn P w K mg base 8 "_law_bent" ["bag", "thing", "deep"] (mf__law_bent 4) := okS__law_bent y c__law_take c__law_some c__law_odd (by decide) e3__law_bent
  have e5__law_bent : Dn P w K mg base 9 "_law_bent" ["bag", "thing", "deep"] (mf__law_bent 5) := okS__law_bent y c__law_take c__law_some c__law_odd (by decide) e4__law_bent
  have c__law_bent : Dn P w K mg base 9 "_law_bent" ["bag", "thing", "deep"] m__law_bent := e5__law_bent
  have c__law_is_int : Dn P w K mg base 1 "_law_is_int" ["thing"] m__law_is_int := ok__law_is_int y 
  have c__law_are_ints : Dn P w K mg base 2 "_law_are_ints" ["thing"] m__law_are_ints := ok__law_are_ints y c__law_is_int
  have c__law_rises : Dn P w K mg base 1 "_law_rises" ["thing"] m__law_rises := ok__law_rises y 
  have c__law_are_zones : Dn P w K mg base 3 "_law_are_zones" ["thing"] m__law_are_zones := ok__law_are_zones y c__law_are_ints c__law_rises
  have c__law_is_ride : Dn P w K mg base 4 "_law_is_ride" ["thing"] m__law_is_ride := ok__law_is_ride y c__law_are_zones c__law_is_int
  have c__law_record_form : Dn P w K mg base 5 "_law_record_form" ["thing"] m__law_record_form := ok__law_record_form y c__law_is_ride c__law_is_int
  have c__law_alike : Dn P w K mg base 1 "_law_alike" ["found", "due"] m__law_alike := ok__law_alike y 
  have c_is_integer : Dn P w K mg base 1 "is_integer" ["thing"] m_is_integer := ok_is_integer y 
  have c_are_integers : Dn P w K mg base 2 "are_integers" ["thing"] m_are_integers := ok_are_integers y c_is_integer
  have c_are_rising : Dn P w K mg base 3 "are_rising" ["thing"] m_are_rising := ok_are_rising y c_are_integers
  have c_are_zones : Dn P w K mg base 4 "are_zones" ["thing"] m_are_zones := ok_are_zones y c_are_rising
  have c_is_within : Dn P w K mg base 2 "is_within" ["thing", "least", "most"] m_is_within := ok_is_within y c_is_integer
  have c_row_fault : Dn P w K mg base 5 "row_fault" ["thing", "most"] m_row_fault := ok_row_fault y c_are_zones c_is_within
  have c_is_line : Dn P w K mg base 6 "is_line" ["thing"] m_is_line := ok_is_line y c_is_integer c_row_fault
  have c_checked_record : Dn P w K mg base 7 "checked_record" ["thing"] m_checked_record := ok_checked_record y c_is_line t_BadLog
  have c__law_heard : Dn P w K mg base 8 "_law_heard" ["thing"] m__law_heard := ok__law_heard y c_checked_record t_BadLog
  have c_Reading_begin : DM P w K mg base 1 "Reading" "begin" ["self"] m_Reading_begin := ok_Reading_begin y 
  have c_Reading___init__ : DC P w K mg base 2 "Reading" ["self", "caps"] m_Reading___init__ := ok_Reading___init__ y c_Reading_begin
  have c_has_all : Dn P w K mg base 1 "has_all" ["zones", "some"] m_has_all := ok_has_all y 
  have c_holds : Dn P w K mg base 2 "holds" ["one", "ride"] m_holds := ok_holds y c_has_all
  have c_who_holds : Dn P w K mg base 3 "who_holds" ["passes", "ride"] m_who_holds := ok_who_holds y c_holds
  have c_Reading_lead : DM P w K mg base 4 "Reading" "lead" ["self", "line"] m_Reading_lead := ok_Reading_lead y c_Reading_begin c_who_holds
  have c_reading_ahead : Dn P w K mg base 5 "reading_ahead" ["caps", "record", "index"] m_reading_ahead := ok_reading_ahead y c_Reading___init__ c_Reading_lead
  have c_Reading_too_small : DM P w K mg base 4 "Reading" "too_small" ["self", "ride", "cents"] m_Reading_too_small := ok_Reading_too_small y c_who_holds
  have c_Reading_due : DM P w K mg base 4 "Reading" "due" ["self", "ride"] m_Reading_due := ok_Reading_due y c_who_holds
  have c_Reading_word : DM P w K mg base 5 "Reading" "word" ["self", "line"] m_Reading_word := ok_Reading_word y c_Reading_too_small c_Reading_due
  have c_word_at : Dn P w K mg base 6 "word_at" ["caps", "record", "index"] m_word_at := ok_word_at y c_reading_ahead c_Reading_word
  have c_money_at : Dn P w K mg base 6 "money_at" ["caps", "record", "index"] m_money_at := ok_money_at y c_reading_ahead
  have c_left_at : Dn P w K mg base 6 "left_at" ["caps", "record", "index"] m_left_at := ok_left_at y c_reading_ahead
  have c__law_word : Dn P w K mg base 4 "_law_word" ["caps", "record", "index"] m__law_word := ok__law_word y c__law_money c__law_left c__law_holds c__law_due
  have c_checked_passes : Dn P w K mg base 6 "checked_passes" ["thing"] m_checked_passes := ok_checked_passes y c_row_fault
  have c_Meter_whole : DM P w K mg base 1 "Meter" "whole" ["self"] m_Meter_whole := ok_Meter_whole y 
  have c_Meter___init__ : DC P w K mg base 7 "Meter" ["self", "caps"] m_Meter___init__ := ok_Meter___init__ y c_checked_passes c_Meter_whole
  have c_Meter_day_from : DM P w K mg base 1 "Meter" "day_from" ["self", "first", "last"] m_Meter_day_from := ok_Meter_day_from y 
  have c_Meter_new_day : DM P w K mg base 2 "Meter" "new_day" ["self"] m_Meter_new_day := ok_Meter_new_day y c_Meter_whole c_Meter_day_from
  have c_Meter_would : DM P w K mg base 6 "Meter" "would" ["self", "ride"] m_Meter_would := ok_Meter_would y c_row_fault c_who_holds
  have c_Meter_tap : DM P w K mg base 7 "Meter" "tap" ["self", "ride"] m_Meter_tap := ok_Meter_tap y c_Meter_would c_who_holds
  have c__law_is_printed : Dn P w K mg base 9 "_law_is_printed" ["caps", "record"] m__law_is_printed := ok__law_is_printed y c_Meter___init__ c_Meter_new_day c_Meter_tap
  exact okL y c__law_bag c__law_passes c__law_record c__law_odd c__law_some c__law_bent c__law_record_form c__law_alike c__law_heard c_word_at c_money_at c_left_at c__law_word c__law_money c__law_left c__law_is_printed F
theorem ok_all (y : Hy fa fn K mg) (t_BadLog : ∀ (w : World) (base : Heap), DX P w K mg base file x_BadLog) : ∃ fd : FuncData, mg "law" = some (.ref (He.ga K "law")) ∧ (∀ (s : Shared) (u : Value), BindsTo s fd ⟨[u], []⟩ [("script", u)]) ∧ ∀ (w : World) (base : Heap), RunC P w K mg base (L2.CX P w) (He.ga K "law") fd ["script"] (spD K mg 1 m_law) := by
  obtain ⟨fd0, F0⟩ := y.c.def_ 60 (d := d_law) rfl
  have F : FunD K d_law.name d_law.qual d_law.params q_law.val.1 q_law.val.2 [] [] (He.fAd K d_law.at_) fd0 := F0
  exact ⟨fd0, y.glo 41, fun s u => FunD.bindsA (ps := ["script"]) F (fun _ _ _ _ _ _ us hl => match us, hl with | [_], _ => rfl) s [u] rfl, fun w base => ok_chain y (t_BadLog w base) F⟩
end
end K75

set_option maxHeartbeats 0
namespace K75
open PySem PySem.Spec L2 Nt
open PyProof.Rows hiding St
theorem law_end (hM : ∀ ns : List Int, ns.length ≤ 63 → ∃ S, m_law [.scr ns] [] = .ok (.bl true) S) : PySem.Challenge.rw_nosplitpays_k75_records_of_meters.Holds := by
  w_on; o_law
  refine HandSHeadRun.head_any (r := PySem.W.OpenLaw.row PySem.Challenge.rw_nosplitpays_k75_records_of_meters) (q := PySem.W.view (PySem.W.OpenLaw.row PySem.Challenge.rw_nosplitpays_k75_records_of_meters).prog [64]) (H := K75.hk) (ob := K75.ob) (M := 6000) (loose := K75.nms) (d := HandSHeadRun.topDef (PySem.W.OpenLaw.row PySem.Challenge.rw_nosplitpays_k75_records_of_meters).prog 64) (kwd := []) K75.ob_eq
    (by kernel_rfl) (fun s => by kernel_rfl) K75.run (by kernel_rfl) (by kernel_rfl) (by kernel_rfl) (by rfl) (by first | assumption | decide +kernel) (by decide +kernel) ⟨rfl, rfl, rfl, rfl, rfl, by decide +kernel⟩ ?hw ?hc
  case hw => w_witness2
  case hc =>
    refine Nx.walk_ofC (l := PySem.Challenge.rw_nosplitpays_k75_records_of_meters) (n := 63) (x := "script") (CX := fun w => L2.CX (PySem.Challenge.rw_nosplitpays_k75_records_of_meters).prog w) rfl (by decide) (by kernel_rfl) ?F (fun w H s e s' z => cx_no H s e s' z)
    intro w mg fa h Y G hmg0
    obtain ⟨K, KX, c⟩ := Y
    have hmg : mg ("law" : PySem.Str) = some (.ref fa) := by
      have e : (HandSHeadRun.topDef (PySem.W.OpenLaw.row PySem.Challenge.rw_nosplitpays_k75_records_of_meters).prog 64).name = ("law" : PySem.Str) := by kernel_rfl
      rw [← e]
      exact hmg0
    have y : Hy K75.fa fn K mg := ⟨c.d, h, KX, G⟩
    have hP : (((PySem.Challenge.rw_nosplitpays_k75_records_of_meters).prog.main.file : PySem.Str) == file) = true := by kernel_rfl
    have hT : ((PySem.Challenge.rw_nosplitpays_k75_records_of_meters).prog.main.scope.names.lookup ("super" : PySem.Str)).isSome = false := by kernel_rfl
    have t_BadLog : ∀ (w : World) (base : Heap), DX (PySem.Challenge.rw_nosplitpays_k75_records_of_meters).prog w K mg base file x_BadLog := fun w base => okI_BadLog (c.xc KX G 0) hP hT (y.free 98)
    obtain ⟨fd, hg, hb, hF⟩ := ok_all y t_BadLog
    have e := hmg.symm.trans hg
    cases e
    refine ⟨K, fd, spD K mg 1 m_law, KX, hb, fun H a ns hl _ hS => law_sp hl hS rfl (hM ns hl), fun base _ _ => hF w base⟩
end K75

namespace K75
open PySem PySem.Spec L2 Nt
open PyProof.Rows hiding St
abbrev Ride := List Int × Int
def eI (xs : List Int) : D := .tup (xs.map .int)
def eR (r : Ride) : D := .tup [eI r.1, .int r.2]
def eRs (rs : List Ride) : D := .tup (rs.map eR)
def hasAll (z s : List Int) : Bool := s.all fun x => decide (x ∈ z)
def holds (c r : Ride) : Bool := hasAll c.1 r.1
section
variable {S : Sto} {q : D → Sto → Prop}
theorem has_all_ok (z s : List Int) : Wp (m_has_all [eI z, eI s]) S q = q (.bl (hasAll z s)) S := by
  unfold m_has_all b_has_all
  simp [eI, iSeq, seqD, wipeD]
  rw [wp_lcE D.int (fun _ => true) (fun x => .bl (decide (x ∈ z))) s trivial fun b _ => by simp [lN, setAll, inD_ints]]
  simp [allD, onBls, rdlD, blsD_bls, hasAll]
theorem holds_ok (c r : Ride) : Wp (m_holds [eR c, eR r]) S q = q (.bl (holds c r)) S := by
  unfold m_holds b_holds
  simp [eR, ixD, seqD, atI, has_all_ok, holds]
/-- which of the caps hold the ride -/
def who (caps : List Ride) (r : Ride) : List Nat := (List.range caps.length).filter fun i => (caps[i]?.map fun c => holds c r).getD false
theorem pairsI_map {α : Type} (f : α → D) : ∀ (xs : List α) (k : Nat), pairsI k (xs.map f) = (xs.zipIdx k).map fun p => .tup [.int (p.2 : Nat), f p.1]
  | [], _ => rfl
  | x :: xs, k => by
    rw [List.map_cons]
    unfold pairsI
    rw [pairsI_map f xs (k + 1)]
    rfl
def whoZ (caps : List Ride) (r : Ride) : List Nat := (caps.zipIdx.filter fun p => holds p.1 r).map (·.2)
theorem who_holds_ok (caps : List Ride) (r : Ride) : Wp (m_who_holds [eRs caps, eR r]) S q = q (.tup ((whoZ caps r).map fun i => .int (i : Nat))) S := by
  unfold m_who_holds b_who_holds
  simp [eRs, iEnu, seqD, wipeD, pairsI_map]
  rw [wp_lcE (fun p : Ride × Nat => .tup [.int (p.2 : Nat), eR p.1]) (fun p => holds p.1 r) (fun p => .int (p.2 : Nat)) caps.zipIdx trivial fun b _ => by simp [lT, lCs, lN, lNl, setAll, holds_ok, truD]]
  simp [tupleD, rdlD, whoZ, Function.comp_def]
end
end K75

namespace K75
open PySem PySem.Spec L2 Nt
open PyProof.Rows hiding St
/-! ### lots -/
def subs (ps : List Ride) : List (List Ride) := ps.foldl (fun acc c => acc ++ acc.map (· ++ [c])) [[]]
def price (l : List Ride) : Int := (l.map (·.2)).sum
def hit (l : List Ride) (r : Ride) : Bool := l.any fun c => holds c r
theorem subs_snoc (ps : List Ride) (c : Ride) : subs (ps ++ [c]) = subs ps ++ (subs ps).map (· ++ [c]) := by
  unfold subs
  rw [List.foldl_append]
  rfl
theorem subs_len : ∀ (n : Nat) (ps : List Ride), ps.length = n → (subs ps).length = 2 ^ n
  | 0, ps, h => by rw [List.length_eq_zero_iff.mp h]; rfl
  | n + 1, ps, h => by
    obtain ⟨l, c, rfl⟩ : ∃ l c, ps = l ++ [c] := by
      have hne : ps ≠ [] := by rintro rfl; simp at h
      exact ⟨ps.dropLast, ps.getLast hne, (List.dropLast_concat_getLast hne).symm⟩
    rw [subs_snoc, List.length_append, List.length_map, subs_len n l (by simpa using h)]
    omega
theorem price_snoc (l : List Ride) (c : Ride) : price (l ++ [c]) = price l + c.2 := by simp [price]
theorem hit_snoc (l : List Ride) (c r : Ride) : hit (l ++ [c]) r = (hit l r || holds c r) := by simp [hit]
theorem take_succ' {α : Type} {xs : List α} {i : Nat} {x : α} (h : xs[i]? = some x) : xs.take (i + 1) = xs.take i ++ [x] := by
  rw [List.take_succ, h]; rfl
theorem pow10 {n : Nat} (h : n ≤ 10) : 2 ^ n ≤ 1024 := by
  have : 2 ^ n ≤ 2 ^ 10 := Nat.pow_le_pow_right (by omega) h
  omega
theorem subs_small {ps : List Ride} (h : ps.length ≤ 10) (i : Nat) : (subs (ps.take i)).length ≤ 1024 := by
  rw [subs_len _ _ rfl]
  exact pow10 (Nat.le_trans (by simp [List.length_take]; omega) h)
section
variable {S : Sto} {q : D → Sto → Prop}
theorem add_lst {xs ys : List D} (h : xs.length + ys.length ≤ sizeLine) : addD S (.lst xs) (.lst ys) = some (.lst (xs ++ ys)) := by
  unfold addD
  simp [lstD, h]
theorem pairs2_map {α : Type} (f g : α → D) : ∀ xs : List α, pairs2 (xs.map f) (xs.map g) = xs.map fun x => .tup [f x, g x]
  | [] => rfl
  | x :: xs => by
    rw [List.map_cons, List.map_cons]
    unfold pairs2
    rw [pairs2_map f g xs]
    rfl
/-- what the rides cost behind a lot -/
def cost (rs : List Ride) (l : List Ride) : Int := price l + ((rs.filter fun r => !hit l r).map (·.2)).sum
theorem cost_snoc (rs l : List Ride) (r : Ride) : cost (rs ++ [r]) l = if hit l r then cost rs l else cost rs l + r.2 := by
  unfold cost
  cases h : hit l r <;> simp [h, List.filter_append] <;> omega
theorem subs_ne (ps : List Ride) : subs ps ≠ [] := by
  intro h
  have := subs_len _ ps rfl
  rw [h] at this
  have := Nat.two_pow_pos ps.length
  simp at *
  omega
theorem min_ints {α : Type} (f : α → Int) (xs : List α) (h : xs ≠ []) : minD S [.lst (xs.map fun x => .int (f x))] = some (.int (minI (xs.map f))) := by
  have e : minD S [.lst (xs.map fun x => .int (f x))] = onInts (fun ns => if ns = [] then none else some (.int (minI ns))) S [.lst (xs.map fun x => .int (f x))] := rfl
  rw [e]
  unfold onInts
  simp [intsD_ints, h]
end
end K75

namespace K75
open PySem PySem.Spec L2 Nt
open PyProof.Rows hiding St
/-! ### lines of a record -/
inductive Ln where
  | day | count (n : Int) | ride (r : Ride) (c : Int)
def eL : Ln → D
  | .day => .tup [.str "day"]
  | .count n => .tup [.str "count", .int n]
  | .ride r c => .tup [.str "ride", eR r, .int c]
def eLs (ls : List Ln) : D := .tup (ls.map eL)
def fsR (caps : List Ride) (l : Nat) (m : Int) : List (Str × D) := [("its_caps", eRs caps), ("its_left", .ref l), ("its_money", .int m)]
theorem n1 : (("its_left" : Str) == "its_caps") = false := by decide +kernel
theorem n2 : (("its_money" : Str) == "its_caps") = false := by decide +kernel
theorem n3 : (("its_money" : Str) == "its_left") = false := by decide +kernel
/-- a Reading at n, its list at l -/
structure RdAt (S : Sto) (n l : Nat) (caps : List Ride) (left : List Int) (m : Int) : Prop where
  at_ : S[n]? = some (.ins "Reading" (fsR caps l m))
  li : S[l]? = some (.lst (left.map .int))
section
variable {S : Sto} {q : D → Sto → Prop} {n l : Nat} {caps : List Ride} {left : List Int} {m : Int}
theorem lk_caps {x : D} {r : List (Str × D)} : List.lookup ("its_caps" : Str) (("its_caps", x) :: r) = some x := by simp
theorem fld_caps (R : RdAt S n l caps left m) : fldD ["Reading"] "its_caps" S (.ref n) = some (eRs caps) := by
  unfold fldD
  dsimp only
  rw [R.at_]
  simp [fsR]
theorem fld_left (R : RdAt S n l caps left m) : fldD ["Reading"] "its_left" S (.ref n) = some (.ref l) := by
  unfold fldD
  dsimp only
  rw [R.at_]
  simp [fsR, List.lookup_cons, n1]
theorem fld_money (R : RdAt S n l caps left m) : fldD ["Reading"] "its_money" S (.ref n) = some (.int m) := by
  unfold fldD
  dsimp only
  rw [R.at_]
  simp [fsR, List.lookup_cons, n2, n3]
theorem is_rd {x : Str} (R : RdAt S n l caps left m) (h1 : (x == ("its_caps" : Str)) = false := by decide +kernel) (h2 : (x == ("its_left" : Str)) = false := by decide +kernel) (h3 : (x == ("its_money" : Str)) = false := by decide +kernel) : isOf "Reading" x S (.ref n) = some (.ref n) := by
  unfold isOf
  dsimp only
  rw [R.at_]
  simp [fsR, List.lookup_cons, h1, h2, h3]
theorem seq_left (R : RdAt S n l caps left m) : seqD S (.ref l) = some (left.map .int) := by
  unfold seqD
  dsimp only
  rw [R.li]
theorem ix_left (R : RdAt S n l caps left m) {i : Nat} (h : i < left.length) : ixD S (.ref l) (.int (i : Nat)) = some (.int (left.getD i 0)) := by
  have e : ixD S (.ref l) (.int (i : Nat)) = (seqD S (.ref l)).bind fun xs => atI xs (i : Nat) := rfl
  rw [e, seq_left R, Option.bind_some]
  unfold L2.atI
  rw [List.length_map, ixN_nat h, Option.bind_some, List.getElem?_map, List.getElem?_eq_getElem h]
  simp [h]
/-- what a ride may be charged at most -/
def held (caps : List Ride) (left : List Int) (r : Ride) : List Int := (whoZ caps r).map fun i => max 0 (left.getD i 0)
def dueT (caps : List Ride) (left : List Int) (r : Ride) : Int := minI (r.2 :: held caps left r)
def smallT (caps : List Ride) (left : List Int) (r : Ride) (c : Int) : List Nat := (whoZ caps r).filter fun i => decide (max 0 (left.getD i 0) < c)
theorem who_lt {r : Ride} {i : Nat} (h : i ∈ whoZ caps r) : i < caps.length := by
  unfold whoZ at h
  obtain ⟨p, hp, rfl⟩ := List.mem_map.mp h
  have := (List.mem_filter.mp hp).1
  obtain ⟨a, b⟩ := p
  have := List.mem_zipIdx this
  simp at this
  omega
theorem who_len (r : Ride) : (whoZ caps r).length ≤ caps.length := by
  unfold whoZ
  rw [List.length_map]
  exact Nat.le_trans (List.length_filter_le _ _) (by simp)
theorem min_of (ns : List Int) (h : ns ≠ []) : minD S [.lst (ns.map .int)] = some (.int (minI ns)) := by
  have := min_ints (S := S) id ns h
  simpa using this
theorem max0 (x : Int) : (if x > 0 then x else 0) = max 0 x := by
  rw [Int.max_def]; split <;> split <;> omega
theorem due_ok (R : RdAt S n l caps left m) (hl : left.length = caps.length) (r : Ride) (hc : caps.length ≤ 10) : Wp (m_Reading_due [.ref n, eR r]) S q = q (.int (dueT caps left r)) S := by
  refine Wp.eqn ?_
  unfold m_Reading_due b_Reading_due
  simp [fld_caps R, who_holds_ok, wipeD]
  rw [show eR r = .tup [eI r.1, .int r.2] from rfl]
  simp [atI]
  rw [wp_lcE (fun i : Nat => .int (i : Nat)) (fun _ => true) (fun i => .int (max 0 (left.getD i 0))) (whoZ caps r) trivial fun i hi => by
    have := who_lt hi
    simp [lN, setAll, fld_left R, ix_left R (show i < left.length by omega), max0]]
  have := who_len (caps := caps) r
  have e : (D.int r.2 :: List.map (fun i => D.int (max 0 (left.getD i 0))) (whoZ caps r)) = (r.2 :: held caps left r).map .int := by simp [held, Function.comp_def]
  simp only [filter_tt]
  rw [e, min_of _ (by simp)]
  simp [sizeLine_eq, dueT, held]
  omega
theorem small_ok (R : RdAt S n l caps left m) (hl : left.length = caps.length) (r : Ride) (c : Int) : Wp (m_Reading_too_small [.ref n, eR r, .int c]) S q = q (.lst ((smallT caps left r c).map fun i => .int (i : Nat))) S := by
  refine Wp.eqn ?_
  unfold m_Reading_too_small b_Reading_too_small
  simp [fld_caps R, who_holds_ok, wipeD]
  rw [wp_lcE (fun i : Nat => .int (i : Nat)) (fun i => decide (max 0 (left.getD i 0) < c)) (fun i => .int (i : Nat)) (whoZ caps r) trivial fun i hi => by
    have := who_lt hi
    simp [lN, setAll, fld_left R, ix_left R (show i < left.length by omega), max0]]
  simp [smallT]
/-- begin: a new list -/
def bgS (S : Sto) (n : Nat) (caps : List Ride) : Sto := (S ++ [O.lst (caps.map fun r => .int r.2)]).set n (.ins "Reading" (fsR caps S.length 0))
def f3 (a x y : D) : List (Str × D) := [("its_caps", a), ("its_left", x), ("its_money", y)]
theorem put_left (a x y z : D) : putD "its_left" z (f3 a x y) = f3 a z y := by
  have h1 : ¬ (("its_caps" : Str) = "its_left") := by decide +kernel
  simp [f3, putD, h1]
theorem put_money (a x y z : D) : putD "its_money" z (f3 a x y) = f3 a x z := by
  have h1 : ¬ (("its_caps" : Str) = "its_money") := by decide +kernel
  have h2 : ¬ (("its_left" : Str) = "its_money") := by decide +kernel
  simp [f3, putD, h1, h2]
theorem setF_rd {f : Str} {a x y z : D} (h : S[n]? = some (.ins "Reading" (f3 a x y))) : setF ["Reading"] f S (.ref n) z = some (S.set n (.ins "Reading" (putD f z (f3 a x y)))) := by
  unfold setF
  dsimp only
  rw [h]
  dsimp only
  rw [if_pos ⟨by simp, by show 3 < 1000; decide⟩]
theorem get_set {o : O} (h : n < S.length) : (S.set n o)[n]? = some o := List.getElem?_set_self h
theorem begin_ok (R : RdAt S n l caps left m) : Wp (m_Reading_begin [.ref n]) S q = q .non (bgS S n caps) := by
  refine Wp.eqn ?_
  have hn : n < S.length := (List.getElem?_eq_some_iff.mp R.at_).1
  unfold m_Reading_begin b_Reading_begin
  simp [fld_caps R, wipeD]
  rw [show eRs caps = .tup (caps.map eR) from rfl]
  simp
  rw [wp_lcE eR (fun _ => true) (fun r => .int r.2) caps trivial fun r hi => by simp [lT, lCs, lN, lNl, setAll, eR]]
  have hg : (S ++ [O.lst (List.map (fun r => D.int r.snd) caps)])[n]? = some (.ins "Reading" (f3 (eRs caps) (.ref l) (.int m))) := by
    rw [List.getElem?_append_left hn]; exact R.at_
  have hn2 : n < (S ++ [O.lst (List.map (fun r => D.int r.snd) caps)]).length := by simp; omega
  simp [gTp, gCs, gFl, gNl, eV, setF_rd hg, put_left, sizeLine_eq]
  rw [setF_rd (get_set hn2)]
  simp only [put_money, So_some]
  simp [bgS, fsR, f3]
theorem bg_rd (R : RdAt S n l caps left m) : RdAt (bgS S n caps) n S.length caps (caps.map (·.2)) 0 := by
  have hn : n < S.length := (List.getElem?_eq_some_iff.mp R.at_).1
  unfold bgS
  refine ⟨get_set (by simp; omega), ?_⟩
  rw [List.getElem?_set_ne (by omega)]
  simp [Function.comp_def]
/-! ### a word for a line -/
def wordT (caps : List Ride) (left : List Int) (m : Int) : Ln → Option Str
  | .day => none
  | .count n => if n = m then none else some "count"
  | .ride r c => if c < 0 then some "below" else if r.2 < c then some "fare" else if smallT caps left r c ≠ [] then some "cap" else if c < dueT caps left r then some "little" else none
def eO' : Option Str → D
  | none => .non
  | some x => .str x
theorem ok_day : PyData.strOk ("day" : Str) = true := by decide +kernel
theorem ok_count : PyData.strOk ("count" : Str) = true := by decide +kernel
theorem ok_ride : PyData.strOk ("ride" : Str) = true := by decide +kernel
theorem eq1 {f : Bool → Bool} : eqP f S (.str "day") (.str "day") = some (.bl (f true)) := by rw [eqP_str ok_day ok_day]; simp
theorem eq2 {f : Bool → Bool} : eqP f S (.str "count") (.str "day") = some (.bl (f false)) := by rw [eqP_str ok_count ok_day, decide_eq_false (by decide +kernel)]
theorem eq3 {f : Bool → Bool} : eqP f S (.str "ride") (.str "day") = some (.bl (f false)) := by rw [eqP_str ok_ride ok_day, decide_eq_false (by decide +kernel)]
theorem eq4 {f : Bool → Bool} : eqP f S (.str "count") (.str "count") = some (.bl (f true)) := by rw [eqP_str ok_count ok_count]; simp
theorem eq5 {f : Bool → Bool} : eqP f S (.str "ride") (.str "count") = some (.bl (f false)) := by rw [eqP_str ok_ride ok_count, decide_eq_false (by decide +kernel)]
theorem eq6 {f : Bool → Bool} : eqP f S (.str "ride") (.str "ride") = some (.bl (f true)) := by rw [eqP_str ok_ride ok_ride]; simp
theorem eq7 {f : Bool → Bool} : eqP f S (.str "count") (.str "ride") = some (.bl (f false)) := by rw [eqP_str ok_count ok_ride, decide_eq_false (by decide +kernel)]
theorem eq8 {f : Bool → Bool} : eqP f S (.str "day") (.str "ride") = some (.bl (f false)) := by rw [eqP_str ok_day ok_ride, decide_eq_false (by decide +kernel)]
theorem eq9 {f : Bool → Bool} : eqP f S (.str "day") (.str "count") = some (.bl (f false)) := by rw [eqP_str ok_day ok_count, decide_eq_false (by decide +kernel)]
theorem ne_nil {ws : List Nat} {f : Bool → Bool} : eqP f S (.lst (ws.map fun i => .int (i : Nat))) (.lst []) = some (.bl (f (decide (ws = [])))) := by
  rw [eqP_pln (by unfold pln; exact plns_map fun _ _ => rfl) rfl (by unfold dep; have := deps_map (f := fun i : Nat => D.int (i : Nat)) (xs := ws) (n := 0) fun _ _ => Nat.le_refl _; omega) (by decide)]
  by_cases h : ws = [] <;> simp [h]
theorem word_ok (R : RdAt S n l caps left m) (hl : left.length = caps.length) (hc : caps.length ≤ 10) (x : Ln) : Wp (m_Reading_word [.ref n, eL x]) S q = q (eO' (wordT caps left m x)) S := by
  refine Wp.eqn ?_
  unfold m_Reading_word b_Reading_word
  cases x with
  | day => simp [eL, atI, eq1, wordT, eO']
  | count k =>
    simp [eL, atI, eq2, eq4, fld_money R, wordT]
    by_cases h : k = m <;> simp [h, eO']
  | ride r c =>
    have s1 := is_rd (x := "too_small") R
    have s2 := is_rd (x := "due") R
    simp [eL, atI, eq3, eq5, gTp, gCs, gN, gNl]
    by_cases h1 : c < 0
    · simp [h1, wordT, eO']
    · simp [h1, wordT]
      rw [show eR r = .tup [eI r.1, .int r.2] from rfl]
      simp [atI]
      by_cases h2 : r.2 < c
      · simp [h2, eO']
      · simp [h2]
        rw [show (D.tup [eI r.1, .int r.2]) = eR r from rfl]
        simp [s1, small_ok R hl, sizeLine_eq, ne_nil]
        by_cases h3 : smallT caps left r c = []
        · simp [h3, s2, due_ok R hl r hc]
          by_cases h4 : c < dueT caps left r <;> simp [h4, eO']
        · simp [h3, eO']
end
end K75

namespace K75
open PySem PySem.Spec L2 Nt
open PyProof.Rows hiding St
/-- all but n, l stays -/
structure Fr (S S' : Sto) (n l : Nat) : Prop where
  len : S.length ≤ S'.length
  same : ∀ k, k < S.length → k ≠ n → k ≠ l → S'[k]? = S[k]?
theorem Fr.refl {S : Sto} {n l : Nat} : Fr S S n l := ⟨Nat.le_refl _, fun _ _ _ _ => rfl⟩
def minus (left : List Int) (ws : List Nat) (c : Int) : List Int := ws.foldl (fun l i => l.set i (l.getD i 0 - c)) left
def leadT (caps : List Ride) (st : List Int × Int) : Ln → List Int × Int
  | .day => (caps.map (·.2), 0)
  | .count _ => st
  | .ride r c => (minus st.1 (whoZ caps r) c, st.2 + c)
theorem minus_len (ws : List Nat) (c : Int) : ∀ left : List Int, (minus left ws c).length = left.length := by
  induction ws with
  | nil => intro left; rfl
  | cons w ws ih => intro left; show (minus (left.set w _) ws c).length = _; rw [ih, List.length_set]
theorem minus_snoc (left : List Int) (ws : List Nat) (w : Nat) (c : Int) : minus left (ws ++ [w]) c = (minus left ws c).set w ((minus left ws c).getD w 0 - c) := by
  unfold minus
  rw [List.foldl_append]
  rfl
section
variable {S : Sto} {q : D → Sto → Prop} {n l : Nat} {caps : List Ride} {left : List Int} {m : Int}
theorem RdAt.ne (R : RdAt S n l caps left m) : n ≠ l := fun e => by
  have h1 := R.at_
  have h2 := R.li
  rw [e, h2] at h1
  cases h1
theorem set_self {o : O} (h : S[l]? = some o) : S.set l o = S := by
  apply List.ext_getElem?
  intro i
  by_cases hi : i = l
  · subst hi
    rw [List.getElem?_set_self (List.getElem?_eq_some_iff.mp h).1, h]
  · rw [List.getElem?_set_ne (Ne.symm hi)]
theorem getL_ref {xs : List Int} (h : S[l]? = some (.lst (xs.map .int))) {i : Nat} (hi : i < xs.length) : getL S (.ref l) (.int (i : Nat)) = some (.int (xs.getD i 0)) := by
  unfold getL
  dsimp only
  rw [h]
  dsimp only
  unfold L2.atI
  rw [List.length_map, ixN_nat hi, Option.bind_some, List.getElem?_map, List.getElem?_eq_getElem hi]
  simp [hi]
theorem setL_ref {xs : List Int} (h : S[l]? = some (.lst (xs.map .int))) {i : Nat} (hi : i < xs.length) (v : Int) : setL S (.ref l) (.int (i : Nat)) (.int v) = some (S.set l (.lst ((xs.set i v).map .int))) := by
  unfold setL
  dsimp only
  rw [h]
  dsimp only
  rw [List.length_map, ixN_nat hi, Option.map_some, List.map_set]
theorem cls_rd (R : RdAt S n l caps left m) : clsD ["Reading"] S (.ref n) = some "Reading" := by
  unfold clsD
  dsimp only
  rw [R.at_]
  simp
theorem lead_ok (R : RdAt S n l caps left m) (hl : left.length = caps.length) (x : Ln) :
    Wp (m_Reading_lead [.ref n, eL x]) S fun d S' => d = .non ∧ ∃ l', RdAt S' n l' caps (leadT caps (left, m) x).1 (leadT caps (left, m) x).2 ∧ (l' = l ∨ S.length ≤ l') ∧ Fr S S' n l := by
  have hn : n < S.length := (List.getElem?_eq_some_iff.mp R.at_).1
  have hll : l < S.length := (List.getElem?_eq_some_iff.mp R.li).1
  unfold m_Reading_lead b_Reading_lead
  cases x with
  | day =>
    have s1 := is_rd (x := "begin") R
    simp [eL, atI, eq1, s1, begin_ok R]
    refine ⟨S.length, ?_, .inr (Nat.le_refl _), ?_⟩
    · simpa [leadT] using bg_rd R
    · unfold bgS
      refine ⟨by simp, fun k hk h1 h2 => ?_⟩
      rw [List.getElem?_set_ne (Ne.symm h1), List.getElem?_append_left hk]
  | count k =>
    simp [eL, atI, eq2, eq7]
    exact ⟨l, R, .inl rfl, Fr.refl⟩
  | ride r c =>
    simp [eL, atI, eq3, eq6, fld_caps R, who_holds_ok]
    refine ws_loop (fun i : Nat => D.int (i : Nat)) (whoZ caps r) (fun i ρ S' => S' = S.set l (.lst ((minus left ((whoZ caps r).take i) c).map .int)) ∧ ∃ a, ρ = [some (.ref n), some (.tup [.str "ride", eR r, .int c]), a]) ⟨?_, _, rfl⟩ (fun _ _ _ _ => trivial) ?_ ?_
    · have := R.li
      simp [minus]
      exact (set_self this).symm
    · rintro i w ρ S' hi ⟨rfl, a, rfl⟩
      have hw := who_lt (List.mem_of_getElem? hi)
      have R' : RdAt (S.set l (.lst ((minus left ((whoZ caps r).take i) c).map .int))) n l caps (minus left ((whoZ caps r).take i) c) m := ⟨by rw [List.getElem?_set_ne (Ne.symm R.ne)]; exact R.at_, get_set hll⟩
      have hwl : w < (minus left ((whoZ caps r).take i) c).length := by rw [minus_len]; omega
      simp [gL, lN, setAll, fld_left R', atI]
      rw [getL_ref R'.li hwl]
      simp
      rw [setL_ref R'.li hwl]
      simp [take_succ' hi, minus_snoc]
    · rintro ρ S' ⟨rfl, a, rfl⟩
      have R' : RdAt (S.set l (.lst ((minus left (whoZ caps r) c).map .int))) n l caps (minus left (whoZ caps r) c) m := ⟨by rw [List.getElem?_set_ne (Ne.symm R.ne)]; exact R.at_, get_set hll⟩
      rw [List.take_length]
      simp [cls_rd R', fld_money R', atI]
      rw [setF_rd (show _ = some (O.ins "Reading" (f3 (eRs caps) (.ref l) (.int m))) from R'.at_), put_money]
      simp
      refine ⟨l, ⟨get_set (by simp; omega), ?_⟩, .inl rfl, by simp, fun k hk h1 h2 => ?_⟩
      · rw [List.getElem?_set_ne R.ne]; exact R'.li
      · rw [List.getElem?_set_ne (Ne.symm h1), List.getElem?_set_ne (Ne.symm h2)]
theorem setF_g {f : Str} {fs : List (Str × D)} {z : D} (h : S[n]? = some (.ins "Reading" fs)) (hf : fs.length < 1000) : setF ["Reading"] f S (.ref n) z = some (S.set n (.ins "Reading" (putD f z fs))) := by
  unfold setF
  dsimp only
  rw [h]
  dsimp only
  rw [if_pos ⟨by simp, hf⟩]
theorem init_ok : Wp (m_Reading___init__ [.ref S.length, eRs caps]) (S ++ [.ins "Reading" []]) (fun d S' => d = .non ∧ ∃ l, RdAt S' S.length l caps (caps.map (·.2)) 0 ∧ S.length < l ∧ S.length < S'.length ∧ ∀ k, k < S.length → S'[k]? = S[k]?) := by
  have h0 : (S ++ [O.ins "Reading" []])[S.length]? = some (.ins "Reading" []) := by simp
  have p1 : putD "its_caps" (eRs caps) [] = [(("its_caps" : Str), eRs caps)] := rfl
  have p2 : putD "its_left" (.ref (S.length + 1)) [(("its_caps" : Str), eRs caps)] = [(("its_caps" : Str), eRs caps), ("its_left", .ref (S.length + 1))] := by
    have h1 : ¬ (("its_caps" : Str) = "its_left") := by decide +kernel
    simp [putD, h1]
  have p3 : putD "its_money" (.int 0) [(("its_caps" : Str), eRs caps), ("its_left", .ref (S.length + 1))] = fsR caps (S.length + 1) 0 := by
    have h1 : ¬ (("its_caps" : Str) = "its_money") := by decide +kernel
    have h2 : ¬ (("its_left" : Str) = "its_money") := by decide +kernel
    simp [putD, h1, h2, fsR]
  unfold m_Reading___init__ b_Reading___init__
  simp
  rw [setF_g h0 (by show 0 < 1000; decide), p1]
  simp [sizeLine_eq, gTp, gCs, gFl, gNl, eV]
  rw [setF_g (fs := [(("its_caps" : Str), eRs caps)]) (by simp) (by show 1 < 1000; decide), p2]
  simp
  rw [setF_g (fs := [(("its_caps" : Str), eRs caps), ("its_left", .ref (S.length + 1))]) (by simp) (by show 2 < 1000; decide), p3]
  simp
  have R' : RdAt (S ++ [O.ins "Reading" (fsR caps (S.length + 1) 0), O.lst []]) S.length (S.length + 1) caps [] 0 := ⟨by simp, by simp⟩
  rw [is_rd R']
  simp [begin_ok R']
  refine ⟨_, bg_rd R', by simp, by simp [bgS], fun k hk => ?_⟩
  unfold bgS
  rw [List.getElem?_set_ne (by omega), List.getElem?_append_left (by simp; omega), List.getElem?_append_left hk]
/-- a state of a reading behind some lines -/
def readT (caps : List Ride) (ls : List Ln) : List Int × Int := ls.foldl (leadT caps) (caps.map (·.2), 0)
theorem lead_len {st : List Int × Int} (h : st.1.length = caps.length) (x : Ln) : (leadT caps st x).1.length = caps.length := by
  cases x with
  | day => simp [leadT]
  | count n => exact h
  | ride r c => simp [leadT, minus_len, h]
theorem read_len (ls : List Ln) : (readT caps ls).1.length = caps.length := by
  suffices h : ∀ (ls : List Ln) (st : List Int × Int), st.1.length = caps.length → (ls.foldl (leadT caps) st).1.length = caps.length from h ls _ (by simp)
  intro ls
  induction ls with
  | nil => intro st h; exact h
  | cons x ls ih => intro st h; exact ih _ (lead_len h x)
theorem read_snoc (ls : List Ln) (x : Ln) : readT caps (ls ++ [x]) = leadT caps (readT caps ls) x := by
  unfold readT
  rw [List.foldl_append]
  rfl
theorem cut_to {xs : List D} {i : Nat} (h : i ≤ xs.length) : Nt.cutD xs none (some (i : Int)) = xs.take i := by
  unfold Nt.cutD
  rw [HT.sIx_none, HT.sIx_nat, List.drop_zero, Nat.min_eq_left h, Nat.sub_zero]
theorem ahead_ok (ls : List Ln) (i : Nat) (hi : i ≤ ls.length) : Wp (m_reading_ahead [eRs caps, eLs ls, .int (i : Nat)]) S fun d S' => d = .ref S.length ∧ ∃ l, RdAt S' S.length l caps (readT caps (ls.take i)).1 (readT caps (ls.take i)).2 ∧ S.length < l ∧ ∀ k, k < S.length → S'[k]? = S[k]? := by
  unfold m_reading_ahead b_reading_ahead
  simp
  refine Wp.mono init_ok ?_
  rintro d S1 ⟨rfl, l, R, hl, hlen, hk⟩
  refine ⟨rfl, ?_⟩
  have hc : slD S1 (eLs ls) none (some (i : Int)) = some (.tup ((ls.take i).map eL)) := by
    unfold slD eLs
    dsimp only
    rw [cut_to (by simpa using hi), List.map_take]
  simp [hc]
  rw [← List.map_take]
  refine ws_loop eL (ls.take i) (fun j ρ S' => (∃ a b c e, ρ = [a, b, c, some (.ref S.length), e]) ∧ ∃ l, RdAt S' S.length l caps (readT caps ((ls.take i).take j)).1 (readT caps ((ls.take i).take j)).2 ∧ S.length < l ∧ S.length < S'.length ∧ ∀ k, k < S.length → S'[k]? = S[k]?)
    ⟨⟨_, _, _, _, rfl⟩, l, R, hl, hlen, hk⟩ (fun _ _ _ _ => trivial) ?_ ?_
  · rintro j x ρ S' hx ⟨⟨a, b, c, e, rfl⟩, l, R, hl, hlen, hk⟩
    simp [gL, lN, setAll]
    rw [is_rd R]
    simp
    refine Wp.mono (lead_ok R (read_len _) x) ?_
    rintro d S2 ⟨rfl, l2, R2, h2, F2⟩
    have hll : l < S'.length := (List.getElem?_eq_some_iff.mp R.li).1
    refine ⟨l2, by rw [take_succ' hx, read_snoc]; exact R2, ?_, Nat.lt_of_lt_of_le hlen F2.len, fun k hk' => ?_⟩
    · rcases h2 with h2 | h2 <;> omega
    · rw [F2.same k (by omega) (by omega) (by omega), hk k hk']
  · rintro ρ S' ⟨⟨a, b, c, e, rfl⟩, l, R, hl, hlen, hk⟩
    simp
    exact ⟨l, by rw [List.take_length] at R; exact R, hl, hk⟩
end
end K75

namespace K75
open PySem PySem.Spec L2 Nt
open PyProof.Rows hiding St
section
variable {S : Sto} {q : D → Sto → Prop} {n l : Nat} {caps : List Ride} {left : List Int} {m : Int}
theorem ok_below : PyData.strOk ("below" : Str) = true := by decide +kernel
theorem ok_fare : PyData.strOk ("fare" : Str) = true := by decide +kernel
theorem ok_cap : PyData.strOk ("cap" : Str) = true := by decide +kernel
theorem ok_little : PyData.strOk ("little" : Str) = true := by decide +kernel
/-- what a fault tells -/
def paperT (caps : List Ride) (left : List Int) (m : Int) (x : Ln) : Int := match x with
  | .day => m
  | .count _ => m
  | .ride r c => if c < 0 then r.2 else if r.2 < c then r.2 else match smallT caps left r c with
    | i :: _ => (i : Nat)
    | [] => dueT caps left r
theorem in2 {x : Str} : inD false S (.str x) (.tup [.str "below", .str "fare"]) = some (.bl (decide (x = "below" ∨ x = "fare"))) := by
  have h : ∀ a : Str, (a == x) = decide (x = a) := fun a => by
    rw [Bool.eq_iff_iff, beq_iff_eq, decide_eq_true_iff]
    exact eq_comm
  unfold inD
  simp [flV, flVs, inV, eqV, h]
/-! ### faults -/
def faultsT (caps : List Ride) : List Int × Int → Nat → List Ln → List (Nat × Str × Int)
  | _, _, [] => []
  | st, i, x :: xs => (match wordT caps st.1 st.2 x with
    | none => []
    | some w => [(i, w, paperT caps st.1 st.2 x)]) ++ faultsT caps (leadT caps st x) (i + 1) xs
def eF (f : Nat × Str × Int) : D := .tup [.int (f.1 : Nat), .str f.2.1, .int f.2.2]
theorem faultsT_snoc (xs : List Ln) (x : Ln) : ∀ (st : List Int × Int) (i : Nat), faultsT caps st i (xs ++ [x]) = faultsT caps st i xs ++ (match wordT caps (xs.foldl (leadT caps) st).1 (xs.foldl (leadT caps) st).2 x with
    | none => []
    | some w => [(i + xs.length, w, paperT caps (xs.foldl (leadT caps) st).1 (xs.foldl (leadT caps) st).2 x)]) := by
  induction xs with
  | nil => intro st i; simp [faultsT]
  | cons y ys ih =>
    intro st i
    rw [List.cons_append]
    unfold faultsT
    rw [ih]
    simp only [List.foldl_cons, List.length_cons, List.append_assoc]
    rw [show i + 1 + ys.length = i + (ys.length + 1) by omega]
theorem faultsT_len (xs : List Ln) : ∀ (st : List Int × Int) (i : Nat), (faultsT caps st i xs).length ≤ xs.length := by
  induction xs with
  | nil => intro st i; simp [faultsT]
  | cons y ys ih =>
    intro st i
    unfold faultsT
    rw [List.length_append, List.length_cons]
    have := ih (leadT caps st y) (i + 1)
    split <;> simp <;> omega
/-- the faults of a record -/
def fltT (caps : List Ride) (ls : List Ln) : List (Nat × Str × Int) := faultsT caps (caps.map (·.2), 0) 0 ls
end
end K75

namespace K75
open PySem PySem.Spec L2 Nt
open PyProof.Rows hiding St
section
variable {S : Sto} {q : D → Sto → Prop} {n l : Nat} {caps : List Ride} {left : List Int} {m : Int}
def fixT (caps : List Ride) (st : List Int × Int) : Ln → Ln
  | .day => .day
  | .count _ => .count st.2
  | .ride r _ => .ride r (dueT caps st.1 r)
def corrT (caps : List Ride) : List Int × Int → List Ln → List Ln
  | _, [] => []
  | st, x :: xs => fixT caps st x :: corrT caps (leadT caps st (fixT caps st x)) xs
def fixS (caps : List Ride) (st : List Int × Int) (xs : List Ln) : List Int × Int := xs.foldl (fun st x => leadT caps st (fixT caps st x)) st
theorem corr_snoc (xs : List Ln) (x : Ln) : ∀ st : List Int × Int, corrT caps st (xs ++ [x]) = corrT caps st xs ++ [fixT caps (fixS caps st xs) x] := by
  induction xs with
  | nil => intro st; rfl
  | cons y ys ih =>
    intro st
    show fixT caps st y :: corrT caps _ (ys ++ [x]) = _
    rw [ih]
    rfl
theorem fixS_snoc (xs : List Ln) (x : Ln) (st : List Int × Int) : fixS caps st (xs ++ [x]) = leadT caps (fixS caps st xs) (fixT caps (fixS caps st xs) x) := by
  unfold fixS
  rw [List.foldl_append]
  rfl
theorem fixS_len (xs : List Ln) : ∀ st : List Int × Int, st.1.length = caps.length → (fixS caps st xs).1.length = caps.length := by
  induction xs with
  | nil => intro st h; exact h
  | cons y ys ih => intro st h; exact ih _ (lead_len h _)
theorem corr_len (xs : List Ln) : ∀ st : List Int × Int, (corrT caps st xs).length = xs.length := by
  induction xs with
  | nil => intro st; rfl
  | cons y ys ih => intro st; show (_ :: corrT caps _ ys).length = _; rw [List.length_cons, ih, List.length_cons]
def s0 (caps : List Ride) : List Int × Int := (caps.map (·.2), 0)
/-- a record put right -/
def rightT (caps : List Ride) (ls : List Ln) : List Ln := corrT caps (s0 caps) ls
def isRide : Ln → Bool
  | .ride _ _ => true
  | _ => false
def chg : Ln → Int
  | .ride _ c => c
  | _ => 0
def chargedT (ls : List Ln) : Int := (ls.map chg).sum
theorem charged_eq (ls : List Ln) : ((ls.filter isRide).map chg).sum = chargedT ls := by
  induction ls with
  | nil => rfl
  | cons x xs ih =>
    unfold chargedT at *
    cases x <;> simp [List.filter_cons, isRide, chg, ih]
theorem sum_ints {α : Type} (f : α → Int) (xs : List α) : sumD S [.lst (xs.map fun x => .int (f x))] = some (.int (xs.map f).sum) := by
  unfold sumD onInts
  simp [intsD_ints]
end
end K75

namespace K75
open PySem PySem.Spec L2 Nt
open PyProof.Rows hiding St
section
variable {S : Sto} {q : D → Sto → Prop} {n l : Nat} {caps : List Ride} {left : List Int} {m : Int}
theorem pln_eI (z : List Int) : pln (eI z) = true := by unfold eI pln; exact plns_map fun _ _ => rfl
theorem pln_eR (r : Ride) : pln (eR r) = true := by simp [eR, pln, plns, pln_eI]
theorem pln_eL (x : Ln) : pln (eL x) = true := by
  cases x with
  | day => simp [eL, pln, plns, ok_day]
  | count n => simp [eL, pln, plns, ok_count]
  | ride r c => simp [eL, pln, plns, ok_ride, pln_eR]
theorem dep_eI (z : List Int) : dep (eI z) ≤ 1 := by
  unfold eI dep
  have := deps_map (f := D.int) (xs := z) (n := 0) fun _ _ => Nat.le_refl _
  omega
theorem dep_eR (r : Ride) : dep (eR r) ≤ 2 := by
  have := dep_eI r.1
  simp [eR, dep, deps]
  omega
theorem dep_eL (x : Ln) : dep (eL x) ≤ 3 := by
  cases x with
  | day => simp [eL, dep, deps]
  | count n => simp [eL, dep, deps]
  | ride r c =>
    have := dep_eR r
    simp [eL, dep, deps]
    omega
theorem zipW {α β : Type} (f : α → D) (g : β → D) : ∀ (xs : List α) (ys : List β), List.zipWith (fun x y => D.tup [f x, g y]) xs ys = (xs.zip ys).map fun p => .tup [f p.1, g p.2]
  | [], _ => by simp
  | _ :: _, [] => by simp
  | x :: xs, y :: ys => by simp [zipW f g xs ys]
open Classical in
/-- the places at which two records differ -/
noncomputable def diffT (ls rs : List Ln) : List Nat := ((ls.zip rs).zipIdx.filter fun p => !decide (eL p.1.1 = eL p.1.2)).map (·.2)
open Classical in
/-- a whole number, no truth value -/
def isI : D → Bool
  | .int _ => true
  | _ => false
theorem is_integer_ok (a : D) (h : ∀ n, a ≠ .ref n) : Wp (m_is_integer [a]) S q = q (.bl (isI a)) S := by
  refine Wp.eqn ?_
  unfold m_is_integer b_is_integer
  cases a with
  | ref n => exact absurd rfl (h n)
  | scr ns => simp [tyD, isTy, isI]
  | _ => simp [isTy, isI]
theorem ty_some (a : D) (h : ∀ n, a ≠ .ref n) : ∃ t, tyD S a = some t ∧ (t = "str" ↔ ∃ x, a = .str x) ∧ (t = "tuple" ↔ ∃ xs, a = .tup xs) := by
  cases a with
  | ref n => exact absurd rfl (h n)
  | scr ns => exact ⟨_, rfl, by simp, by simp⟩
  | _ => exact ⟨_, rfl, by simp, by simp⟩
def tellT (caps : List Ride) (st : List Int × Int) (x : Ln) (w : Str) (p : Int) : Bool := match x with
  | .ride r c => if w = "cap" then decide (p ∈ (smallT caps st.1 r c).map fun j => ((j : Nat) : Int)) else decide (p = paperT caps st.1 st.2 x)
  | _ => decide (p = paperT caps st.1 st.2 x)
def judge (caps : List Ride) (st : List Int × Int) (x : Ln) (w : Str) (p : Int) : Bool := match wordT caps st.1 st.2 x with
  | some w' => decide (w' = w) && tellT caps st x w p
  | none => false
/-- a fault of these lines -/
def isF (caps : List Ride) (ls : List Ln) (i : Int) (w : Str) (p : Int) : Bool :=
  if 0 ≤ i ∧ i < ls.length then
    (match ls[i.toNat]? with
    | some x => judge caps (readT caps (ls.take i.toNat)) x w p
    | none => false)
  else false
def isFD (caps : List Ride) (ls : List Ln) : D → Bool
  | .tup [.int i, .str w, .int p] => isF caps ls i w p
  | _ => false
/-- what may be asked about -/
def Ask : D → Prop
  | .ref _ => False
  | .tup xs => ∀ x ∈ xs, (∀ n, x ≠ .ref n) ∧ ∀ y, x = .str y → PyData.strOk y = true
  | _ => True
theorem lenN {xs : List D} (h : xs.length ≠ 3) : decide ((xs.length : Int) = 3) = false := decide_eq_false (by omega)
theorem word_str {x : Ln} {w : Str} (h : wordT caps left m x = some w) : PyData.strOk w = true := by
  unfold wordT at h
  cases x with
  | day => cases h
  | count k =>
    dsimp only at h
    split at h
    · cases h
    · cases h; exact ok_count
  | ride r c =>
    dsimp only at h
    split at h
    · cases h; exact ok_below
    · split at h
      · cases h; exact ok_fare
      · split at h
        · cases h; exact ok_cap
        · split at h
          · cases h; exact ok_little
          · cases h
theorem inD_nats (x : Int) (xs : List Nat) : inD false S (.int x) (.lst (xs.map fun j => D.int (j : Nat))) = some (.bl (decide (x ∈ xs.map fun j => ((j : Nat) : Int)))) := by
  have e : (xs.map fun j => D.int ((j : Nat) : Int)) = (xs.map fun j => ((j : Nat) : Int)).map D.int := by rw [List.map_map]; rfl
  unfold inD
  rw [e]
  simp only [flV, seqD, Option.bind_some, flVs_ints, inV_ints]
  simp
end
end K75

namespace K75
open PySem PySem.Spec L2 Nt
open PyProof.Rows hiding St
abbrev Tap := Ride × Int
def eT (t : Tap) : D := eL (.ride t.1 t.2)
/-- the days that are done, the day that runs -/
def dayStep (st : List (List Tap) × List Tap) : Ln → List (List Tap) × List Tap
  | .day => (st.1 ++ [st.2], [])
  | .count _ => st
  | .ride r c => (st.1, st.2 ++ [(r, c)])
def daysT (ls : List Ln) : List (List Tap) × List Tap := ls.foldl dayStep ([], [])
theorem days_snoc (ls : List Ln) (x : Ln) : daysT (ls ++ [x]) = dayStep (daysT ls) x := by
  unfold daysT
  rw [List.foldl_append]
  rfl
def gapT (caps : List Ride) (d : List Tap) : Int := (d.map (·.2)).sum - minI ((subs caps).map (cost (d.map (·.1))))
/-- lists of the store that hold these days -/
structure Days (S : Sto) (base o : Nat) (rs : List Nat) (ds : List (List Tap)) : Prop where
  len : rs.length = ds.length
  nd : rs.Nodup
  out : o ∉ rs
  ge : ∀ r ∈ rs, base ≤ r
  oge : base ≤ o
  own : S[o]? = some (O.lst (rs.map D.ref))
  at_ : ∀ (i r : Nat) (d : List Tap), rs[i]? = some r → ds[i]? = some d → S[r]? = some (O.lst (d.map eT))
section
variable {S : Sto} {q : D → Sto → Prop} {n l : Nat} {caps : List Ride}
theorem Days.lt {base o : Nat} {rs : List Nat} {ds : List (List Tap)} (h : Days S base o rs ds) {r : Nat} (hr : r ∈ rs) : r < S.length := by
  obtain ⟨i, hi, rfl⟩ := List.getElem_of_mem hr
  exact (List.getElem?_eq_some_iff.mp (h.at_ i _ (ds[i]'(h.len ▸ hi)) (List.getElem?_eq_getElem hi) (List.getElem?_eq_getElem (h.len ▸ hi)))).1
theorem Days.up {base o : Nat} {rs : List Nat} {ds : List (List Tap)} {S' : Sto} (h : Days S base o rs ds) (k : ∀ (j : Nat) (o : O), S[j]? = some o → S'[j]? = some o) : Days S' base o rs ds :=
  ⟨h.len, h.nd, h.out, h.ge, h.oge, k _ _ h.own, fun i r d a b => k _ _ (h.at_ i r d a b)⟩
theorem charges_enc (d : List Tap) : d.map eT = d.map fun t => eL (.ride t.1 t.2) := rfl
theorem sum_of (ns : List Int) : sumD S [.lst (ns.map .int)] = some (.int ns.sum) := by
  have := sum_ints (S := S) id ns
  simpa using this
theorem lstD_of {xs : List D} (h : S[n]? = some (.lst xs)) : lstD S (.ref n) = some xs := by
  unfold lstD
  dsimp only
  rw [h]
theorem seqD_of {xs : List D} (h : S[n]? = some (.lst xs)) : seqD S (.ref n) = some xs := by
  unfold seqD
  dsimp only
  rw [h]
theorem app_of {xs : List D} {d : D} (h : xs.length ≤ 1000) : appendF S xs [d] = some (.non, xs ++ [d]) := by
  unfold appendF
  dsimp only
  rw [if_pos (by rw [sizeLine_eq]; omega)]
theorem atI_last {xs : List D} {d : D} : atI (xs ++ [d]) (-1) = some d := by
  unfold L2.atI
  rw [List.length_append]
  simp
/-- a day ends: a new list -/
theorem Days.day {base o : Nat} {rs : List Nat} {ds : List (List Tap)} (h : Days S base o rs ds) (hb : base ≤ S.length) : Days ((S ++ [O.lst []]).set o (O.lst ((rs ++ [S.length]).map D.ref))) base o (rs ++ [S.length]) (ds ++ [[]]) := by
  have ho : o < S.length := (List.getElem?_eq_some_iff.mp h.own).1
  refine ⟨by simp [h.len], ?_, ?_, ?_, h.oge, get_set (by simp; omega), ?_⟩
  · rw [List.nodup_append]
    exact ⟨h.nd, by simp, fun a ha b hb e => by
      rw [List.mem_singleton] at hb
      subst hb
      have := h.lt ha
      omega⟩
  · simp
    exact ⟨h.out, by omega⟩
  · intro r hr
    rcases List.mem_append.mp hr with hr | hr
    · exact h.ge r hr
    · rw [List.mem_singleton.mp hr]; exact hb
  · intro i r d h1 h2
    rcases get_snoc h1 with h1 | ⟨e1, e2⟩
    · have hi := (List.getElem?_eq_some_iff.mp h1).1
      rw [List.getElem?_append_left (by rw [← h.len]; exact hi)] at h2
      have hr := List.mem_of_getElem? h1
      have hlt := h.lt hr
      have hne : o ≠ r := fun e => h.out (by rw [e]; exact hr)
      rw [List.getElem?_set_ne hne, List.getElem?_append_left hlt]
      exact h.at_ i r d h1 h2
    · subst e2
      rw [e1, h.len] at h2
      simp at h2
      subst h2
      rw [List.getElem?_set_ne (by omega)]
      simp
/-- a ride is put to the last day -/
theorem Days.ride {base o r : Nat} {rs : List Nat} {ds : List (List Tap)} {d : List Tap} {t : Tap} (h : Days S base o (rs ++ [r]) (ds ++ [d])) : Days (S.set r (O.lst ((d ++ [t]).map eT))) base o (rs ++ [r]) (ds ++ [d ++ [t]]) := by
  have hr : r ∈ rs ++ [r] := by simp
  have hlt := h.lt hr
  have hl : rs.length = ds.length := by simpa using h.len
  refine ⟨by simpa using h.len, h.nd, h.out, h.ge, h.oge, by
    have hne : r ≠ o := fun e => h.out (by rw [← e]; exact hr)
    rw [List.getElem?_set_ne hne]; exact h.own, ?_⟩
  intro i r' d' h1 h2
  rcases get_snoc h1 with h1 | ⟨e1, e2⟩
  · have hi := (List.getElem?_eq_some_iff.mp h1).1
    rw [List.getElem?_append_left (by rw [← hl]; exact hi)] at h2
    have hne : r ≠ r' := fun e => by
      have := List.nodup_append.mp h.nd
      exact this.2.2 r' (List.mem_of_getElem? h1) r (by simp) e.symm
    rw [List.getElem?_set_ne hne]
    exact h.at_ i r' d' (by rw [List.getElem?_append_left hi]; exact h1) (by rw [List.getElem?_append_left (by rw [← hl]; exact hi)]; exact h2)
  · subst e2
    rw [e1, hl] at h2
    simp at h2
    subst h2
    exact get_set hlt
/-- all the days of a record -/
def allDays (ls : List Ln) : List (List Tap) := (daysT ls).1 ++ [(daysT ls).2]
theorem days_len (ls : List Ln) : (daysT ls).1.length ≤ ls.length := by
  suffices h : ∀ (ls : List Ln) (st : List (List Tap) × List Tap), (ls.foldl dayStep st).1.length ≤ st.1.length + ls.length from by
    have := h ls ([], [])
    simpa [daysT] using this
  intro ls
  induction ls with
  | nil => intro st; exact Nat.le_refl _
  | cons x xs ih =>
    intro st
    rw [List.foldl_cons, List.length_cons]
    have := ih (dayStep st x)
    cases x <;> simp [dayStep] at * <;> omega
theorem cur_len (ls : List Ln) : (daysT ls).2.length ≤ ls.length := by
  suffices h : ∀ (ls : List Ln) (st : List (List Tap) × List Tap), (ls.foldl dayStep st).2.length ≤ st.2.length + ls.length from by
    have := h ls ([], [])
    simpa [daysT] using this
  intro ls
  induction ls with
  | nil => intro st; exact Nat.le_refl _
  | cons x xs ih =>
    intro st
    rw [List.foldl_cons, List.length_cons]
    have := ih (dayStep st x)
    cases x <;> simp [dayStep] at * <;> omega
end
end K75

namespace K75
open PySem PySem.Spec L2 Nt
open PyProof.Rows hiding St
/-! ### plain facts -/
theorem who_zip (r : Ride) : ∀ (caps : List Ride) (left L : List Int) (k : Nat), left.length = caps.length → (∀ j, L.getD (k + j) 0 = left.getD j 0) →
    ((caps.zipIdx k).filter fun p => holds p.1 r).map (fun p => L.getD p.2 0) = ((caps.zip left).filter fun p => holds p.1 r).map (·.2)
  | [], _, _, _, _, _ => by simp
  | c :: caps, [], _, _, h, _ => by simp at h
  | c :: caps, x :: left, L, k, h, hL => by
    have ih := who_zip r caps left L (k + 1) (by simpa using h) fun j => by
      have := hL (j + 1)
      simpa [Nat.add_assoc, Nat.add_comm, Nat.add_left_comm] using this
    have h0 := hL 0
    rw [List.zipIdx_cons, List.zip_cons_cons, List.filter_cons, List.filter_cons]
    cases hh : holds c r with
    | true =>
      simp only [hh, if_true, List.map_cons, ih]
      first | (congr 1; done) | (congr 1; simpa using h0)
    | false => simpa [hh] using ih
theorem held_eq (caps : List Ride) (left : List Int) (r : Ride) (h : left.length = caps.length) : held caps left r = ((caps.zip left).filter fun p => holds p.1 r).map fun p => max 0 p.2 := by
  have := who_zip r caps left left 0 h fun j => by rw [Nat.zero_add]
  unfold held whoZ
  rw [List.map_map]
  have e : (List.map ((fun i => max 0 (left.getD i 0)) ∘ fun x => x.snd) (List.filter (fun p => holds p.1 r) caps.zipIdx)) = (List.map (fun p => left.getD p.2 0) (List.filter (fun p => holds p.1 r) caps.zipIdx)).map (max 0) := by rw [List.map_map]; rfl
  rw [e, this, List.map_map]
  rfl
theorem minus_get (c : Int) (i : Nat) : ∀ (ws : List Nat) (left : List Int), ws.Nodup → (minus left ws c)[i]? = left[i]?.map fun x => if i ∈ ws then x - c else x
  | [], left, _ => by simp [minus]
  | w :: ws, left, h => by
    rw [List.nodup_cons] at h
    show (minus (left.set w (left.getD w 0 - c)) ws c)[i]? = _
    rw [minus_get c i ws _ h.2]
    by_cases hi : i = w
    · subst hi
      by_cases hl : i < left.length
      · rw [List.getElem?_set_self hl, List.getElem?_eq_getElem hl]
        simp [h.1, hl]
      · rw [List.getElem?_eq_none (by simp; omega), List.getElem?_eq_none (by omega)]
        rfl
    · rw [List.getElem?_set_ne (Ne.symm hi)]
      simp [hi]
theorem who_nodup (caps : List Ride) (r : Ride) : (whoZ caps r).Nodup := by
  unfold whoZ
  have h : (caps.zipIdx.map (·.2)).Nodup := by rw [List.zipIdx_map_snd]; exact List.nodup_range'
  exact List.Sublist.nodup ((List.filter_sublist (p := fun p : Ride × Nat => holds p.1 r) (l := caps.zipIdx)).map (·.2)) h
theorem who_mem {caps : List Ride} {r c : Ride} {i : Nat} (h : caps[i]? = some c) : i ∈ whoZ caps r ↔ holds c r = true := by
  unfold whoZ
  rw [List.mem_map]
  constructor
  · rintro ⟨⟨c', j⟩, hm, rfl⟩
    obtain ⟨h1, h2⟩ := List.mem_filter.mp hm
    have := List.mem_zipIdx_iff_getElem?.mp h1
    simp at this
    rw [h] at this
    cases this
    exact h2
  · intro hh
    refine ⟨(c, i), List.mem_filter.mpr ⟨List.mem_zipIdx_iff_getElem?.mpr (by simpa using h), hh⟩, rfl⟩
/-- .. as the law has it -/
def subT (caps : List Ride) (left : List Int) (r : Ride) (c : Int) : List Int := (caps.zip left).map fun p => p.2 - (if holds p.1 r then c else 0)
theorem minus_sub (caps : List Ride) (left : List Int) (r : Ride) (c : Int) (h : left.length = caps.length) : minus left (whoZ caps r) c = subT caps left r c := by
  apply List.ext_getElem?
  intro i
  rw [minus_get c i _ _ (who_nodup caps r)]
  unfold subT
  rw [List.getElem?_map]
  by_cases hi : i < caps.length
  · have hl : i < left.length := by omega
    have e1 : (caps.zip left)[i]? = some (caps[i], left[i]) := List.getElem?_zip_eq_some.mpr ⟨List.getElem?_eq_getElem hi, List.getElem?_eq_getElem hl⟩
    rw [e1, List.getElem?_eq_getElem hl, Option.map_some, Option.map_some]
    have := who_mem (r := r) (List.getElem?_eq_getElem hi)
    by_cases hh : holds caps[i] r = true
    · rw [if_pos (this.mpr hh), if_pos hh]
    · rw [if_neg fun q => hh (this.mp q), if_neg hh]
      simp
  · rw [List.getElem?_eq_none (by omega), List.getElem?_eq_none (by simp; omega)]
    rfl
section
variable {S : Sto} {q : D → Sto → Prop} {caps : List Ride}
theorem ones_nil {α : Type} {f : Bool → Bool} (xs : List α) : eqP f S (.lst (xs.map fun _ => .int 1)) (.lst []) = some (.bl (f (decide (xs = [])))) := by
  rw [eqP_pln (by unfold pln; exact plns_map fun _ _ => rfl) rfl (by unfold dep; have := deps_map (f := fun _ : α => D.int 1) (xs := xs) (n := 0) fun _ _ => Nat.le_refl _; omega) (by decide)]
  by_cases h : xs = [] <;> simp [h]
theorem law_is_int_ok (a : D) (h : ∀ n, a ≠ .ref n) : Wp (m__law_is_int [a]) S q = q (.bl (isI a)) S := by
  refine Wp.eqn ?_
  unfold m__law_is_int b__law_is_int
  cases a with
  | ref n => exact absurd rfl (h n)
  | scr ns => simp [tyD, isTy, isI]
  | _ => simp [isTy, isI]
theorem law_holds_ok (c r : Ride) : Wp (m__law_holds [eI c.1, eR r]) S q = q (.bl (holds c r)) S := by
  refine Wp.eqn ?_
  unfold m__law_holds b__law_holds
  rw [show eR r = .tup [eI r.1, .int r.2] from rfl, show eI r.1 = .tup (r.1.map .int) from rfl]
  simp [atI, wipeD, sizeLine_eq]
  rw [wp_lcE D.int (fun x => !decide (x ∈ c.1)) (fun _ => .int 1) r.1 trivial fun x _ => by
    rw [show eI c.1 = .tup (c.1.map .int) from rfl]
    simp [lN, setAll, inD_ints]]
  simp [ones_nil]
  have : decide (r.1.filter (fun x => !decide (x ∈ c.1)) = []) = holds c r := by
    unfold holds hasAll
    rw [Bool.eq_iff_iff]
    simp [List.filter_eq_nil_iff]
  simpa using this
theorem read_eq (ls : List Ln) (x : Ln) : (readT caps (ls ++ [x])).1 = (match x with
    | .day => caps.map (·.2)
    | .count _ => (readT caps ls).1
    | .ride r c => subT caps (readT caps ls).1 r c) := by
  rw [read_snoc]
  cases x with
  | day => rfl
  | count n => rfl
  | ride r c => exact minus_sub caps _ r c (read_len ls)
theorem pairs2_two {α β : Type} (f : α → D) (g : β → D) : ∀ (xs : List α) (ys : List β), pairs2 (xs.map f) (ys.map g) = (xs.zip ys).map fun p => .tup [f p.1, g p.2]
  | [], _ => by simp [pairs2]
  | _ :: _, [] => by simp [pairs2]
  | x :: xs, y :: ys => by
    rw [List.map_cons, List.map_cons]
    unfold pairs2
    rw [pairs2_two f g xs ys]
    rfl
theorem law_left_ok (ls : List Ln) (i : Nat) (hi : i ≤ ls.length) : Wp (m__law_left [eRs caps, eLs ls, .int (i : Nat)]) S q = q (.lst ((readT caps (ls.take i)).1.map .int)) S := by
  refine Wp.eqn ?_
  unfold m__law_left b__law_left
  have hc : slD S (eLs ls) none (some (i : Int)) = some (.tup ((ls.take i).map eL)) := by
    unfold slD eLs
    dsimp only
    rw [cut_to (by simpa using hi), List.map_take]
  rw [show eRs caps = .tup (caps.map eR) from rfl]
  simp [wipeD]
  rw [wp_lcE eR (fun _ => true) (fun r => .int r.2) caps trivial fun r _ => by simp [lT, lCs, lN, lNl, setAll, eR]]
  simp [hc]
  rw [← List.map_take]
  refine ws_loop eL (ls.take i) (fun j ρ S' => S' = S ∧ ∃ b c e f g h k, ρ = [some (.tup (caps.map eR)), b, c, some (.lst ((readT caps ((ls.take i).take j)).1.map .int)), e, f, g, h, k]) ⟨rfl, _, _, _, _, _, _, _, by simp [readT, Function.comp_def]; exact ⟨rfl, rfl, rfl, rfl, rfl, rfl, rfl⟩⟩ (fun _ _ _ _ => trivial) ?_ ?_
  · rintro j x ρ S' hx ⟨rfl, b, c, e, f, g, h, k, rfl⟩
    have hr := read_eq (caps := caps) ((ls.take i).take j) x
    rw [take_succ' hx, hr]
    cases x with
    | day =>
      simp [gL, lN, setAll, eL, atI, eq1, wipeD]
      rw [wp_lcE eR (fun _ => true) (fun r => .int r.2) caps trivial fun r _ => by simp [lT, lCs, lN, lNl, setAll, eR]]
      simp [Function.comp_def]
    | count n => simp [gL, lN, setAll, eL, atI, eq2, eq7]
    | ride r c =>
      simp [gL, lN, setAll, eL, atI, eq3, eq6, wipeD, pairs2_two]
      rw [wp_lcE (fun p : Ride × Int => .tup [eR p.1, .int p.2]) (fun _ => true) (fun p => .int (p.2 - (if holds p.1 r then c else 0))) _ trivial fun p _ => by
        have hr1 : eR p.1 = .tup [eI p.1.1, .int p.1.2] := rfl
        simp [lT, lCs, lN, lNl, setAll, hr1, atI, law_holds_ok]
        cases holds p.1 r <;> simp]
      simp [subT, Function.comp_def]
  · rintro ρ S' ⟨rfl, b, c, e, f, g, h, k, rfl⟩
    rw [List.take_length]
    simp
theorem money_eq (ls : List Ln) (x : Ln) : (readT caps (ls ++ [x])).2 = (match x with
    | .day => 0
    | .count _ => (readT caps ls).2
    | .ride r c => (readT caps ls).2 + c) := by
  rw [read_snoc]
  cases x <;> rfl
theorem law_money_ok (caps : List Ride) (ls : List Ln) (i : Nat) (hi : i ≤ ls.length) : Wp (m__law_money [eLs ls, .int (i : Nat)]) S q = q (.int (readT caps (ls.take i)).2) S := by
  refine Wp.eqn ?_
  unfold m__law_money b__law_money
  have hc : slD S (eLs ls) none (some (i : Int)) = some (.tup ((ls.take i).map eL)) := by
    unfold slD eLs
    dsimp only
    rw [cut_to (by simpa using hi), List.map_take]
  simp [hc]
  rw [← List.map_take]
  refine ws_loop eL (ls.take i) (fun j ρ S' => S' = S ∧ ∃ b c e, ρ = [b, c, some (.int (readT caps ((ls.take i).take j)).2), e]) ⟨rfl, _, _, _, rfl⟩ (fun _ _ _ _ => trivial) ?_ ?_
  · rintro j x ρ S' hx ⟨rfl, b, c, e, rfl⟩
    have hr := money_eq (caps := caps) ((ls.take i).take j) x
    rw [take_succ' hx, hr]
    cases x with
    | day => simp [gL, lN, setAll, eL, atI, eq1]
    | count n => simp [gL, lN, setAll, eL, atI, eq2, eq7]
    | ride r c => simp [gL, lN, setAll, eL, atI, eq3, eq6]
  · rintro ρ S' ⟨rfl, b, c, e, rfl⟩
    rw [List.take_length]
    simp
theorem ix_line {ls : List Ln} {i : Nat} {x : Ln} (h : ls[i]? = some x) : ixD S (eLs ls) (.int (i : Nat)) = some (eL x) := by
  unfold eLs
  simp only [ixD_tup]
  unfold L2.atI
  rw [List.length_map, ixN_nat (List.getElem?_eq_some_iff.mp h).1, Option.bind_some, List.getElem?_map, h]
  rfl
/-- the least of the maxima -/
theorem minI_cons (x : Int) (xs : List Int) (h : xs ≠ []) : minI (x :: xs) = min x (minI xs) := by
  cases xs with
  | nil => exact absurd rfl h
  | cons y ys => rfl
theorem max_min (xs : List Int) (h : xs ≠ []) : max 0 (minI xs) = minI (xs.map (max 0)) := by
  induction xs with
  | nil => exact absurd rfl h
  | cons x xs ih =>
    by_cases hx : xs = []
    · subst hx; rfl
    · rw [minI_cons x xs hx, List.map_cons, minI_cons _ _ (by simpa using hx), ← ih hx]
      omega
theorem law_due_ok (ls : List Ln) (i : Nat) (r : Ride) (c : Int) (hx : ls[i]? = some (.ride r c)) (hr : 0 ≤ r.2) (hc : caps.length ≤ 10) : Wp (m__law_due [eRs caps, eLs ls, .int (i : Nat)]) S q = q (.int (dueT caps (readT caps (ls.take i)).1 r)) S := by
  refine Wp.eqn ?_
  have hi : i ≤ ls.length := Nat.le_of_lt (List.getElem?_eq_some_iff.mp hx).1
  have hl := read_len (caps := caps) (ls.take i)
  unfold m__law_due b__law_due
  simp [ix_line hx, eL, atI, law_left_ok ls i hi]
  rw [show eR r = .tup [eI r.1, .int r.2] from rfl, show eRs caps = .tup (caps.map eR) from rfl]
  simp [atI, sizeLine_eq, wipeD, pairs2_two]
  rw [wp_lcE (fun p : Ride × Int => .tup [eR p.1, .int p.2]) (fun p => holds p.1 r) (fun p => .int p.2) _ trivial fun p _ => by
    have hr1 : eR p.1 = .tup [eI p.1.1, .int p.1.2] := rfl
    have hr2 : D.tup [eI r.1, .int r.2] = eR r := rfl
    simp [lT, lCs, lN, lNl, setAll, hr1, hr2, atI, law_holds_ok]]
  have hz : ((caps.zip (readT caps (ls.take i)).1).filter fun p => holds p.1 r).length ≤ 10 := by
    refine Nat.le_trans (List.length_filter_le _ _) ?_
    rw [List.length_zip, hl]
    omega
  rw [add_lst (by simp [sizeLine_eq]; omega)]
  have e : ([D.int r.2] ++ ((caps.zip (readT caps (ls.take i)).1).filter fun p => holds p.1 r).map fun p => .int p.2) = (r.2 :: ((caps.zip (readT caps (ls.take i)).1).filter fun p => holds p.1 r).map (·.2)).map .int := by simp [Function.comp_def]
  rw [e, So_some, min_of _ (by simp)]
  simp only [So_some, maxD_2, max0]
  refine ⟨?_, trivial⟩
  rw [max_min _ (by simp), List.map_cons, List.map_map]
  unfold dueT
  rw [held_eq caps _ r hl, Int.max_eq_right hr]
  rfl
theorem small_nil (caps : List Ride) (left : List Int) (r : Ride) (c : Int) (h : left.length = caps.length) : smallT caps left r c = [] ↔ ∀ x ∈ held caps left r, ¬ x < c := by
  unfold smallT held
  rw [List.filter_eq_nil_iff]
  simp
theorem law_word_ok (ls : List Ln) (i : Nat) (x : Ln) (hx : ls[i]? = some x) (hr : ∀ r c, x = .ride r c → 0 ≤ r.2) (hc : caps.length ≤ 10) : Wp (m__law_word [eRs caps, eLs ls, .int (i : Nat)]) S q = q (eO' (wordT caps (readT caps (ls.take i)).1 (readT caps (ls.take i)).2 x)) S := by
  refine Wp.eqn ?_
  have hi : i ≤ ls.length := Nat.le_of_lt (List.getElem?_eq_some_iff.mp hx).1
  have hl := read_len (caps := caps) (ls.take i)
  unfold m__law_word b__law_word
  cases x with
  | day => simp [ix_line hx, eL, atI, eq1, wordT, eO']
  | count n =>
    simp [ix_line hx, eL, atI, eq2, eq4, law_money_ok caps ls i hi, wordT]
    by_cases h : n = (readT caps (ls.take i)).2 <;> simp [h, eO']
  | ride r c =>
    simp [ix_line hx, eL, atI, eq3, eq5]
    by_cases h1 : c < 0
    · simp [h1, wordT, eO']
    · simp [h1, wordT]
      have hr1 : eR r = .tup [eI r.1, .int r.2] := rfl
      rw [hr1]
      simp [atI]
      by_cases h2 : r.2 < c
      · simp [h2, eO']
      · simp [h2, law_left_ok ls i hi]
        rw [show eRs caps = .tup (caps.map eR) from rfl]
        simp [wipeD, pairs2_two]
        rw [wp_lcE (fun p : Ride × Int => .tup [eR p.1, .int p.2]) (fun p => holds p.1 r) (fun p => .int (max 0 p.2)) _ trivial fun p _ => by
          have hr2 : eR p.1 = .tup [eI p.1.1, .int p.1.2] := rfl
          have hr3 : D.tup [eI r.1, .int r.2] = eR r := rfl
          simp [lT, lCs, lN, lNl, setAll, hr2, hr3, atI, law_holds_ok, max0]]
        have e : (((caps.zip (readT caps (ls.take i)).1).filter fun p => holds p.1 r).map fun p => D.int (max 0 p.2)) = (held caps (readT caps (ls.take i)).1 r).map .int := by
          rw [held_eq caps _ r hl, List.map_map]
          rfl
        rw [e]
        rw [wp_lcE D.int (fun x => decide (x < c)) (fun _ => .int 1) (held caps (readT caps (ls.take i)).1 r) trivial fun y _ => by simp [lN, setAll, atI]]
        rw [show @neD = @eqP not from rfl, ones_nil]
        have hs := small_nil caps (readT caps (ls.take i)).1 r c hl
        have hs' : (held caps (readT caps (ls.take i)).1 r).filter (fun x => decide (x < c)) = [] ↔ smallT caps (readT caps (ls.take i)).1 r c = [] := by
          rw [hs, List.filter_eq_nil_iff]
          simp
        have hd : ∀ {q : D → Sto → Prop}, Wp (m__law_due [eRs caps, eLs ls, .int (i : Nat)]) S q = q _ S := fun {q} => law_due_ok ls i r c hx (hr r c rfl) hc
        rw [show D.tup (caps.map eR) = eRs caps from rfl]
        by_cases h3 : smallT caps (readT caps (ls.take i)).1 r c = []
        · rw [decide_eq_true (hs'.mpr h3)]
          simp [h3, hd]
          by_cases h4 : c < dueT caps (readT caps (ls.take i)).1 r <;> simp [h4, eO']
        · rw [decide_eq_false fun q => h3 (hs'.mp q)]
          simp [h3, eO']
end
end K75

namespace K75
open PySem PySem.Spec L2 Nt
open PyProof.Rows hiding St
section
variable {S : Sto} {q : D → Sto → Prop} {caps : List Ride}
theorem ix_cap {i : Nat} {c : Ride} (h : caps[i]? = some c) : ixD S (eRs caps) (.int (i : Nat)) = some (eR c) := by
  have hi : i < caps.length := (List.getElem?_eq_some_iff.mp h).1
  unfold eRs
  simp only [ixD_tup]
  unfold L2.atI
  rw [List.length_map, ixN_nat hi, Option.bind_some, List.getElem?_map, h]
  rfl
theorem small_mem (left : List Int) (r : Ride) (c : Int) (hl : left.length = caps.length) (i : Nat) : ((i : Nat) : Int) ∈ (smallT caps left r c).map (fun j => ((j : Nat) : Int)) ↔ ∃ z, caps[i]? = some z ∧ holds z r = true ∧ max 0 (left.getD i 0) < c := by
  unfold smallT
  simp only [List.mem_map, List.mem_filter, decide_eq_true_eq]
  constructor
  · rintro ⟨j, ⟨h1, h2⟩, h3⟩
    have : j = i := by omega
    subst this
    have hj := who_lt h1
    exact ⟨_, List.getElem?_eq_getElem hj, (who_mem (List.getElem?_eq_getElem hj)).mp h1, h2⟩
  · rintro ⟨z, hz, hh, h2⟩
    exact ⟨i, ⟨(who_mem hz).mpr hh, h2⟩, rfl⟩
theorem small_neg (left : List Int) (r : Ride) (c : Int) (p : Int) (h : ¬ (0 ≤ p ∧ p < caps.length)) : p ∉ (smallT caps left r c).map (fun j => ((j : Nat) : Int)) := by
  unfold smallT
  simp only [List.mem_map, List.mem_filter]
  rintro ⟨j, ⟨h1, _⟩, rfl⟩
  exact h ⟨by omega, by have := who_lt h1; omega⟩
theorem eqP_strn {f : Bool → Bool} {b : Str} (hb : PyData.strOk b = true) : eqP f S (.str b) .non = some (.bl (f false)) := by
  rw [eqP_pln (a := .str b) (b := .non) hb rfl (Nat.zero_le _) (Nat.zero_le _)]
  simp
theorem ixl {xs : List Int} {i : Nat} (h : i < xs.length) : ixD S (.lst (xs.map .int)) (.int (i : Nat)) = some (.int (xs.getD i 0)) := by
  simp only [ixD_lst]
  unfold L2.atI
  rw [List.length_map, ixN_nat h, Option.bind_some, List.getElem?_map, List.getElem?_eq_getElem h]
  simp [h]
end
end K75

namespace K75
open PySem PySem.Spec L2 Nt
open PyProof.Rows hiding St
section
variable {S : Sto} {q : D → Sto → Prop} {caps : List Ride}
theorem cut_from {xs : List D} {i : Nat} (h : i ≤ xs.length) : Nt.cutD xs (some (i : Int)) none = xs.drop i := by
  unfold Nt.cutD
  rw [HT.sIx_none, HT.sIx_nat, Nat.min_eq_left h]
  exact List.take_of_length_le (by rw [List.length_drop]; omega)
theorem sl_to {ls : List Ln} {i : Nat} (h : i ≤ ls.length) : slD S (eLs ls) none (some (i : Int)) = some (eLs (ls.take i)) := by
  unfold slD eLs
  dsimp only
  rw [cut_to (by simpa using h), List.map_take]
theorem sl_from {ls : List Ln} {i : Nat} (h : i ≤ ls.length) : slD S (eLs ls) (some (i : Int)) none = some (eLs (ls.drop i)) := by
  unfold slD eLs
  dsimp only
  rw [cut_from (by simpa using h), List.map_drop]
theorem read_corr (xs : List Ln) : ∀ st : List Int × Int, (corrT caps st xs).foldl (leadT caps) st = fixS caps st xs := by
  induction xs with
  | nil => intro st; rfl
  | cons x xs ih =>
    intro st
    show (corrT caps _ xs).foldl (leadT caps) _ = _
    rw [ih]
    rfl
theorem read_right (xs : List Ln) : readT caps (rightT caps xs) = fixS caps (s0 caps) xs := read_corr xs _
def mixT (caps : List Ride) (ls : List Ln) (j : Nat) : List Ln := rightT caps (ls.take j) ++ ls.drop j
theorem right_len (xs : List Ln) : (rightT caps xs).length = xs.length := corr_len _ _
theorem mix_take {ls : List Ln} {j : Nat} (h : j ≤ ls.length) : (mixT caps ls j).take j = rightT caps (ls.take j) := by
  unfold mixT
  rw [List.take_left' (by rw [right_len, List.length_take]; omega)]
theorem mix_drop {ls : List Ln} {j : Nat} (h : j < ls.length) : (mixT caps ls j).drop (j + 1) = ls.drop (j + 1) := by
  unfold mixT
  rw [List.drop_append, List.drop_eq_nil_of_le (by rw [right_len, List.length_take]; omega), right_len, List.length_take, List.drop_drop, List.nil_append]
  congr 1
  omega
theorem mix_len {ls : List Ln} {j : Nat} (h : j ≤ ls.length) : (mixT caps ls j).length = ls.length := by
  unfold mixT
  rw [List.length_append, right_len, List.length_take, List.length_drop]
  omega
theorem mix_at {ls : List Ln} {j : Nat} {x : Ln} (h : ls[j]? = some x) : (mixT caps ls j)[j]? = some x := by
  have hj : j < ls.length := (List.getElem?_eq_some_iff.mp h).1
  unfold mixT
  rw [List.getElem?_append_right (by rw [right_len, List.length_take]; omega), right_len, List.length_take, List.getElem?_drop, ← h]
  congr 1
  omega
theorem mix_next {ls : List Ln} {j : Nat} {x : Ln} (h : ls[j]? = some x) : rightT caps (ls.take j) ++ (fixT caps (fixS caps (s0 caps) (ls.take j)) x :: ls.drop (j + 1)) = mixT caps ls (j + 1) := by
  unfold mixT
  have e : rightT caps (ls.take (j + 1)) = rightT caps (ls.take j) ++ [fixT caps (fixS caps (s0 caps) (ls.take j)) x] := by
    rw [take_succ' h]
    exact corr_snoc _ _ _
  rw [e, List.append_assoc]
  rfl
theorem mix_day {ls : List Ln} {j : Nat} (h : ls[j]? = some .day) : mixT caps ls (j + 1) = mixT caps ls j := by
  rw [← mix_next h]
  unfold mixT
  have hj : j < ls.length := (List.getElem?_eq_some_iff.mp h).1
  rw [show ls.drop j = ls[j] :: ls.drop (j + 1) from List.drop_eq_getElem_cons hj]
  rw [List.getElem?_eq_getElem hj] at h
  rw [Option.some.inj h]
  rfl
theorem add_lns {a b : List Ln} (h : a.length + b.length ≤ 1000) : addD S (eLs a) (eLs b) = some (eLs (a ++ b)) := by
  unfold eLs
  rw [List.map_append]
  unfold addD
  simp [sizeLine_eq]
  omega
end
end K75

namespace K75
open PySem PySem.Spec L2 Nt
open PyProof.Rows hiding St
open PySem.W (alike alikeAll dataLe EachIs AllAlike Sortable)
section
variable {S : Sto} {q : D → Sto → Prop} {caps : List Ride}
theorem wp_iRg1 {m : Nv → M D} {ρ : Nv} {q : Its' → Sto → Prop} : Wp (iRg1 m ρ) S q = Wp (m ρ) S fun d S1 => Wp (rgOf (.int 0) d) S1 q := by
  unfold iRg1; simp
theorem range_enc (n : Nat) : rangeD 0 n = (List.range n).map fun i => .int (i : Nat) := by
  unfold rangeD
  simp
theorem wp_rg {n : Nat} (h : n ≤ 1000) {q : Its' → Sto → Prop} : Wp (rgOf (.int 0) (.int (n : Nat))) S q = q ((List.range n).map fun i => .int (i : Nat), fun _ => True) S := by
  rw [← range_enc]
  have e : rgOf (.int 0) (.int (n : Nat)) = ret (rangeD 0 n, fun _ => True) := by
    unfold rgOf
    dsimp only
    rw [show ((n : Int) - 0).toNat = n by omega, if_pos ⟨by omega, by omega, by omega, by omega, by rw [sizeLine_eq]; omega⟩]
  rw [e]
  exact wp_ret
noncomputable def sorted' {α : Type} (pp : α → PyData) (xs : List α) : List α := xs.mergeSort (fun a b => dataLe false pp a b)
theorem sorted_perm {α : Type} (pp : α → PyData) (xs : List α) : (sorted' pp xs).Perm xs := List.mergeSort_perm ..
theorem toPs_map {α : Type} (enc : α → D) (pp : α → PyData) : ∀ (xs : List α), (∀ x ∈ xs, toP S (enc x) = some (pp x)) → toPs S (xs.map enc) = some (xs.map pp)
  | [], _ => rfl
  | x :: xs, h => by
    rw [List.map_cons]
    unfold toPs
    rw [h x (by simp), toPs_map enc pp xs fun y hy => h y (by simp [hy])]
    rfl
theorem sort_map {α : Type} (enc : α → D) (pp : α → PyData) (xs : List α) (h : ∀ x ∈ xs, toP S (enc x) = some (pp x)) (ok : okS (xs.map pp) = true) : sortD S [.lst (xs.map enc)] = some ((sorted' pp xs).map enc) := by
  unfold sortD
  have e : rdlD S (.lst (xs.map enc)) = some (xs.map enc) := rfl
  dsimp only
  rw [e, Option.bind_some, toPs_map enc pp xs h, Option.bind_some, if_pos ok]
  congr 1
  unfold sortP sorted'
  have z : (xs.map enc).zip (xs.map pp) = xs.map fun x => (enc x, pp x) := by
    rw [List.zip_map']
  rw [z, ← List.map_mergeSort (r := fun a b => dataLe false pp a b) (f := fun x => (enc x, pp x)) (fun _ _ _ _ => rfl), List.map_map]
  rfl
theorem alike_ints {α : Type} (f g : α → Int) : ∀ (xs ys : List α), alikeAll (xs.map fun x => PyData.int (f x)) (ys.map fun x => PyData.int (g x)) = true
  | [], [] => rfl
  | [], _ :: _ => rfl
  | _ :: _, [] => rfl
  | x :: xs, y :: ys => by
    rw [List.map_cons, List.map_cons]
    unfold alikeAll
    rw [alike_ints f g xs ys]
    unfold alike
    rfl
theorem depth_ints {α : Type} (f : α → Int) (xs : List α) : (PyData.tuple (xs.map fun x => PyData.int (f x))).depth ≤ 60 := by
  have h : ∀ xs : List α, PyData.depthAll (xs.map fun x => PyData.int (f x)) ≤ 10 := by
    intro xs
    induction xs with
    | nil => exact Nat.zero_le _
    | cons x xs ih => rw [List.map_cons]; unfold PyData.depthAll; simp [PyData.depth]; omega
  have := h xs
  unfold PyData.depth
  omega
def eN (l : List Nat) : D := .tup (l.map fun i => .int (i : Nat))
def pN (l : List Nat) : PyData := .tuple (l.map fun i => .int (i : Nat))
def lotsT (n : Nat) : List (List Nat) := (List.range n).foldl (fun acc i => acc ++ acc.map (· ++ [i])) [[]]
theorem lots_snoc (n : Nat) : lotsT (n + 1) = lotsT n ++ (lotsT n).map (· ++ [n]) := by
  unfold lotsT
  rw [List.range_succ, List.foldl_append]
  rfl
theorem lots_0 : (lotsT 0).map eN = [.tup []] := by simp [lotsT, eN]
theorem lots_len : ∀ n : Nat, (lotsT n).length = 2 ^ n
  | 0 => rfl
  | n + 1 => by
    rw [lots_snoc, List.length_append, List.length_map, lots_len n]
    omega
theorem lots_head : ∀ n : Nat, ∃ r, lotsT n = [] :: r
  | 0 => ⟨[], rfl⟩
  | n + 1 => by
    obtain ⟨r, h⟩ := lots_head n
    rw [lots_snoc, h]
    exact ⟨_, rfl⟩
theorem lots_in : ∀ (n : Nat) (l : List Nat), l ∈ lotsT n → l.length ≤ n ∧ ∀ i ∈ l, i < n
  | 0, l, h => by
    have : l = [] := by simpa [lotsT] using h
    subst this
    simp
  | n + 1, l, h => by
    rw [lots_snoc, List.mem_append, List.mem_map] at h
    rcases h with h | ⟨m, h, rfl⟩
    · have := lots_in n l h
      exact ⟨by omega, fun i hi => by have := this.2 i hi; omega⟩
    · have := lots_in n m h
      refine ⟨by simp; omega, fun i hi => ?_⟩
      rcases List.mem_append.mp hi with hi | hi
      · have := this.2 i hi; omega
      · have : i = n := by simpa using hi
        omega
theorem toP_eN (l : List Nat) : toP S (eN l) = some (pN l) := by
  unfold eN pN toP
  rw [toPs_map (fun i : Nat => D.int (i : Nat)) (fun i : Nat => PyData.int (i : Nat)) l fun _ _ => rfl]
  rfl
theorem ok_lots (n : Nat) : okS ((lotsT n).map pN) = true := by
  obtain ⟨r, h⟩ := lots_head n
  unfold okS
  rw [Bool.and_eq_true, Bool.and_eq_true, Bool.or_eq_true, Bool.or_eq_true]
  refine ⟨⟨List.all_eq_true.mpr fun p hp => List.all_eq_true.mpr fun q hq => ?_, .inr ?_⟩, List.all_eq_true.mpr fun p hp => ?_⟩
  · obtain ⟨a, _, rfl⟩ := List.mem_map.mp hp
    obtain ⟨b, _, rfl⟩ := List.mem_map.mp hq
    unfold pN alike
    exact alike_ints _ _ a b
  · rw [h]
    show (r.map pN).all isTupP = true
    refine List.all_eq_true.mpr fun p hp => ?_
    obtain ⟨a, _, rfl⟩ := List.mem_map.mp hp
    rfl
  · obtain ⟨a, _, rfl⟩ := List.mem_map.mp hp
    exact decide_eq_true (depth_ints _ a)
theorem add_eN {b : List Nat} {x : Nat} (h : b.length ≤ 10) : addD S (eN b) (.tup [.int (x : Nat)]) = some (eN (b ++ [x])) := by
  unfold addD eN
  simp [sizeLine_eq]
  omega
end
end K75

namespace K75
open PySem PySem.Spec L2 Nt
open PyProof.Rows hiding St
/-! ### lots of places are lots of caps -/
def getC (caps : List Ride) (i : Nat) : Ride := caps.getD i ([], 0)
def lotC (caps : List Ride) (l : List Nat) : List Ride := l.map (getC caps)
theorem getC_at {caps : List Ride} {i : Nat} (h : i < caps.length) : caps[i]? = some (getC caps i) := by
  unfold getC
  rw [List.getElem?_eq_getElem h]
  simp [h]
theorem subs_lots : ∀ (n : Nat) (caps : List Ride), caps.length = n → subs caps = (lotsT n).map (lotC caps)
  | 0, caps, h => by
    rw [List.length_eq_zero_iff.mp h]
    simp [subs, lotsT, lotC]
  | n + 1, ps, h => by
    obtain ⟨l, c, rfl⟩ : ∃ l c, ps = l ++ [c] := by
      have hne : ps ≠ [] := by rintro rfl; simp at h
      exact ⟨ps.dropLast, ps.getLast hne, (List.dropLast_concat_getLast hne).symm⟩
    have hl : l.length = n := by simpa using h
    rw [subs_snoc, subs_lots n l hl, lots_snoc, List.map_append, List.map_map, List.map_map]
    have k : ∀ m ∈ lotsT n, lotC (l ++ [c]) m = lotC l m := by
      intro m hm
      unfold lotC
      apply List.map_congr_left
      intro i hi
      have := (lots_in n m hm).2 i hi
      unfold getC
      rw [List.getD_eq_getElem?_getD, List.getD_eq_getElem?_getD, List.getElem?_append_left (by omega)]
    have e1 : (lotsT n).map (lotC l) = (lotsT n).map (lotC (l ++ [c])) := List.map_congr_left fun m hm => (k m hm).symm
    have e2 : (lotsT n).map ((· ++ [c]) ∘ lotC l) = (lotsT n).map (lotC (l ++ [c]) ∘ (· ++ [n])) := List.map_congr_left fun m hm => by
      show lotC l m ++ [c] = lotC (l ++ [c]) (m ++ [n])
      rw [← k m hm]
      unfold lotC
      rw [List.map_append]
      congr 1
      unfold getC
      simp [hl.symm]
    rw [e1, e2]
theorem minI_perm {xs ys : List Int} (h : xs.Perm ys) (hn : xs ≠ []) : minI xs = minI ys := by
  have hn' : ys ≠ [] := by
    rintro rfl
    exact hn h.eq_nil
  obtain ⟨a1, a2⟩ := minI_spec xs hn
  obtain ⟨b1, b2⟩ := minI_spec ys hn'
  have := a2 _ (h.mem_iff.mpr b1)
  have := b2 _ (h.mem_iff.mp a1)
  omega
/-- the least price, by lots of places -/
def bestT (caps rs : List Ride) : Int := minI ((subs caps).map (cost rs))
theorem best_lots (caps rs : List Ride) : minI ((sorted' pN (lotsT caps.length)).map fun l => cost rs (lotC caps l)) = bestT caps rs := by
  unfold bestT
  rw [subs_lots _ caps rfl, List.map_map]
  have hp := (sorted_perm pN (lotsT caps.length)).map fun l => cost rs (lotC caps l)
  refine minI_perm hp ?_
  intro h
  have := congrArg List.length h
  rw [List.length_map, (sorted_perm pN _).length_eq, lots_len] at this
  have := Nat.two_pow_pos caps.length
  simp at *
section
variable {S : Sto} {q : D → Sto → Prop} {caps : List Ride}
theorem ix_r0 (r : Ride) : ixD S (eR r) (.int 0) = some (eI r.1) := rfl
theorem ix_r1 (r : Ride) : ixD S (eR r) (.int 1) = some (.int r.2) := rfl
theorem hit_lot (l : List Nat) (r : Ride) : hit (lotC caps l) r = l.any fun i => holds (getC caps i) r := by
  unfold hit lotC
  rw [List.any_map]
  rfl
theorem filter_any {α : Type} (p : α → Bool) (xs : List α) : decide (xs.filter p = []) = !xs.any p := by
  rw [Bool.eq_iff_iff]
  simp [List.filter_eq_nil_iff]
theorem appB {xs : List D} {d : D} (h : xs.length ≤ 100000) : appendF S xs [d] = some (.non, xs ++ [d]) := by
  unfold appendF
  dsimp only
  rw [if_pos (by rw [sizeLine_eq]; omega)]
theorem min_refI {α : Type} {n : Nat} (f : α → Int) (xs : List α) (hn : xs ≠ []) (h : S[n]? = some (O.lst (xs.map fun x => .int (f x)))) : minD S [.ref n] = some (.int (minI (xs.map f))) := by
  have e : minD S [.ref n] = onInts (fun ns => if ns = [] then none else some (.int (minI ns))) S [.ref n] := rfl
  rw [e]
  unfold onInts
  simp [rdl_ref h, intsD_ints, hn]
end
end K75

namespace K75
open PySem PySem.Spec L2 Nt
open PyProof.Rows hiding St
section
variable {S : Sto} {q : D → Sto → Prop} {caps : List Ride}
def overT (caps : List Ride) (ds : List (List Tap)) : Int := (ds.map fun d => max 0 (gapT caps d)).sum
def underT (caps : List Ride) (ds : List (List Tap)) : Int := (ds.map fun d => max 0 (-gapT caps d)).sum
theorem gap_best (d : List Tap) : gapT caps d = (d.map (·.2)).sum - bestT caps (d.map (·.1)) := rfl
theorem over_snoc (ds : List (List Tap)) (d : List Tap) : overT caps (ds ++ [d]) = overT caps ds + max 0 (gapT caps d) := by simp [overT]
theorem under_snoc (ds : List (List Tap)) (d : List Tap) : underT caps (ds ++ [d]) = underT caps ds + max 0 (-gapT caps d) := by simp [underT]
theorem add_rides {a : List Ride} {r : Ride} (h : a.length ≤ 1000) : addD S (eRs a) (.tup [eR r]) = some (eRs (a ++ [r])) := by
  unfold addD eRs
  simp [sizeLine_eq]
  omega
theorem flt_mem (caps : List Ride) : ∀ (n : Nat) (ls : List Ln), ls.length = n → ∀ f ∈ fltT caps ls, ∃ x, ls[f.1]? = some x ∧ wordT caps (readT caps (ls.take f.1)).1 (readT caps (ls.take f.1)).2 x = some f.2.1 ∧ f.2.2 = paperT caps (readT caps (ls.take f.1)).1 (readT caps (ls.take f.1)).2 x
  | 0, ls, h, f, hf => by
    rw [List.length_eq_zero_iff.mp h] at hf
    simp [fltT, faultsT] at hf
  | n + 1, ls, h, f, hf => by
    obtain ⟨l, y, rfl⟩ : ∃ l y, ls = l ++ [y] := by
      have hne : ls ≠ [] := by rintro rfl; simp at h
      exact ⟨ls.dropLast, ls.getLast hne, (List.dropLast_concat_getLast hne).symm⟩
    have hl : l.length = n := by simpa using h
    unfold fltT at hf
    rw [faultsT_snoc, List.mem_append] at hf
    rcases hf with hf | hf
    · obtain ⟨x, h1, h2, h3⟩ := flt_mem caps n l hl f hf
      have hlt : f.1 < l.length := (List.getElem?_eq_some_iff.mp h1).1
      rw [List.take_append_of_le_length (by omega), List.getElem?_append_left hlt]
      exact ⟨x, h1, h2, h3⟩
    · change f ∈ (match wordT caps (readT caps l).1 (readT caps l).2 y with
        | none => []
        | some w => [(0 + l.length, w, paperT caps (readT caps l).1 (readT caps l).2 y)]) at hf
      split at hf
      · cases hf
      · rename_i w hw
        rw [List.mem_singleton] at hf
        subst hf
        refine ⟨y, by simp, ?_, ?_⟩ <;> (dsimp only; rw [Nat.zero_add, List.take_left])
        exact hw
theorem flt_word {ls : List Ln} {f : Nat × Str × Int} (h : f ∈ fltT caps ls) : PyData.strOk f.2.1 = true := by
  obtain ⟨x, _, h2, _⟩ := flt_mem caps _ ls rfl f h
  exact word_str h2
theorem pln_eF {f : Nat × Str × Int} (h : PyData.strOk f.2.1 = true) : pln (eF f) = true := by simp [eF, pln, plns, h]
theorem dep_eF (f : Nat × Str × Int) : dep (eF f) ≤ 1 := by simp [eF, dep, deps]
theorem ne_unit {f : Bool → Bool} {fs : List (Nat × Str × Int)} (h : ∀ g ∈ fs, PyData.strOk g.2.1 = true) : eqP f S (.tup (fs.map eF)) (.tup []) = some (.bl (f (decide (fs = [])))) := by
  rw [eqP_pln (by unfold pln; exact plns_map fun g hg => pln_eF (h g hg)) rfl (by unfold dep; have := deps_map (f := eF) (xs := fs) (n := 1) fun g _ => dep_eF g; omega) (by decide)]
  by_cases h : fs = [] <;> simp [h]
def firstD : List (Nat × Str × Int) → D
  | [] => .non
  | f :: _ => eF f
end
end K75

namespace K75
open PySem PySem.Spec L2 Nt
open PyProof.Rows hiding St
/-! ### plain facts about faults and right records -/
def fair : Ln → Prop
  | .ride r _ => 0 ≤ r.2
  | _ => True
section
variable {caps : List Ride}
theorem held_nn (left : List Int) (r : Ride) : ∀ x ∈ held caps left r, 0 ≤ x := by
  intro x hx
  unfold held at hx
  obtain ⟨i, _, rfl⟩ := List.mem_map.mp hx
  omega
theorem due_spec (left : List Int) (r : Ride) : (dueT caps left r = r.2 ∨ dueT caps left r ∈ held caps left r) ∧ dueT caps left r ≤ r.2 ∧ ∀ x ∈ held caps left r, dueT caps left r ≤ x := by
  obtain ⟨h1, h2⟩ := minI_spec (r.2 :: held caps left r) (by simp)
  refine ⟨?_, h2 _ (by simp), fun x hx => h2 x (by simp [hx])⟩
  exact List.mem_cons.mp h1
theorem due_nn (left : List Int) (r : Ride) (h : 0 ≤ r.2) : 0 ≤ dueT caps left r := by
  obtain ⟨h1, _⟩ := due_spec (caps := caps) left r
  rcases h1 with h1 | h1
  · omega
  · exact held_nn _ _ _ h1
theorem small_iff (left : List Int) (r : Ride) (c : Int) : smallT caps left r c = [] ↔ ∀ x ∈ held caps left r, ¬ x < c := by
  unfold smallT held
  rw [List.filter_eq_nil_iff]
  simp
theorem word_fix (st : List Int × Int) (x : Ln) (h : fair x) : wordT caps st.1 st.2 (fixT caps st x) = none := by
  cases x with
  | day => rfl
  | count n => simp [fixT, wordT]
  | ride r c =>
    have h1 := due_nn (caps := caps) st.1 r h
    obtain ⟨_, h2, h3⟩ := due_spec (caps := caps) st.1 r
    have h4 : smallT caps st.1 r (dueT caps st.1 r) = [] := (small_iff _ _ _).mpr fun x hx => by have := h3 x hx; omega
    unfold fixT wordT
    dsimp only
    rw [if_neg (by omega), if_neg (by omega), if_neg (by simp [h4]), if_neg (by omega)]
theorem right_good : ∀ (xs : List Ln) (st : List Int × Int) (i : Nat), (∀ x ∈ xs, fair x) → faultsT caps st i (corrT caps st xs) = []
  | [], _, _, _ => rfl
  | x :: xs, st, i, h => by
    show (match wordT caps st.1 st.2 (fixT caps st x) with
      | none => []
      | some w => [(i, w, paperT caps st.1 st.2 (fixT caps st x))]) ++ faultsT caps (leadT caps st (fixT caps st x)) (i + 1) (corrT caps (leadT caps st (fixT caps st x)) xs) = []
    rw [word_fix st x (h x (by simp)), right_good xs _ _ fun y hy => h y (by simp [hy])]
    rfl
theorem fix_fix (st : List Int × Int) (x : Ln) : fixT caps st (fixT caps st x) = fixT caps st x := by cases x <;> rfl
theorem right_right : ∀ (xs : List Ln) (st : List Int × Int), corrT caps st (corrT caps st xs) = corrT caps st xs
  | [], _ => rfl
  | x :: xs, st => by
    show fixT caps st (fixT caps st x) :: corrT caps (leadT caps st (fixT caps st (fixT caps st x))) (corrT caps (leadT caps st (fixT caps st x)) xs) = _
    rw [fix_fix, right_right xs]
    rfl
theorem fix_good (st : List Int × Int) (x : Ln) (h : wordT caps st.1 st.2 x = none) : fixT caps st x = x := by
  cases x with
  | day => rfl
  | count n =>
    unfold wordT at h
    dsimp only at h
    split at h
    · rename_i e; unfold fixT; rw [e]
    · cases h
  | ride r c =>
    unfold wordT at h
    dsimp only at h
    split at h
    · cases h
    · split at h
      · cases h
      · split at h
        · cases h
        · rename_i h1 h2 h3
          split at h
          · cases h
          · rename_i h4
            have h5 := (small_iff (caps := caps) st.1 r c).mp (by simpa using h3)
            obtain ⟨h6, h7, h8⟩ := due_spec (caps := caps) st.1 r
            have : c = dueT caps st.1 r := by
              rcases h6 with h6 | h6
              · omega
              · have := h5 _ h6; omega
            show Ln.ride r (dueT caps st.1 r) = Ln.ride r c
            rw [← this]
theorem good_right : ∀ (xs : List Ln) (st : List Int × Int) (i : Nat), faultsT caps st i xs = [] → corrT caps st xs = xs
  | [], _, _, _ => rfl
  | x :: xs, st, i, h => by
    change (match wordT caps st.1 st.2 x with
      | none => []
      | some w => [(i, w, paperT caps st.1 st.2 x)]) ++ faultsT caps (leadT caps st x) (i + 1) xs = [] at h
    rw [List.append_eq_nil_iff] at h
    have hw : wordT caps st.1 st.2 x = none := by
      cases hq : wordT caps st.1 st.2 x with
      | none => rfl
      | some w => rw [hq] at h; cases h.1
    show fixT caps st x :: corrT caps (leadT caps st (fixT caps st x)) xs = _
    rw [fix_good st x hw, good_right xs _ _ h.2]
/-- which lines are not right -/
def badAt (caps : List Ride) (ls : List Ln) (i : Nat) : Bool := match ls[i]? with
  | none => false
  | some x => (wordT caps (readT caps (ls.take i)).1 (readT caps (ls.take i)).2 x).isSome
theorem flt_ids (caps : List Ride) : ∀ (n : Nat) (ls : List Ln), ls.length = n → (fltT caps ls).map (·.1) = (List.range n).filter (badAt caps ls)
  | 0, ls, h => by
    rw [List.length_eq_zero_iff.mp h]
    rfl
  | n + 1, ls, h => by
    obtain ⟨l, y, rfl⟩ : ∃ l y, ls = l ++ [y] := by
      have hne : ls ≠ [] := by rintro rfl; simp at h
      exact ⟨ls.dropLast, ls.getLast hne, (List.dropLast_concat_getLast hne).symm⟩
    have hl : l.length = n := by simpa using h
    have ih := flt_ids caps n l hl
    have e1 : (List.range n).filter (badAt caps (l ++ [y])) = (List.range n).filter (badAt caps l) := by
      apply List.filter_congr
      intro i hi
      have hi : i < l.length := by rw [hl]; exact List.mem_range.mp hi
      unfold badAt
      rw [List.getElem?_append_left hi, List.take_append_of_le_length (by omega)]
    rw [List.range_succ, List.filter_append, e1, ← ih]
    unfold fltT
    rw [faultsT_snoc, List.map_append]
    congr 1
    have e2 : badAt caps (l ++ [y]) n = (wordT caps (readT caps l).1 (readT caps l).2 y).isSome := by
      unfold badAt
      rw [← hl, List.getElem?_append_right (Nat.le_refl _), Nat.sub_self, List.take_left' rfl]
      rfl
    show ((match wordT caps (readT caps l).1 (readT caps l).2 y with
        | none => []
        | some w => [(0 + l.length, w, paperT caps (readT caps l).1 (readT caps l).2 y)]) : List (Nat × Str × Int)).map (·.1) = _
    rw [List.filter_cons, e2]
    cases wordT caps (readT caps l).1 (readT caps l).2 y with
    | none => rfl
    | some w => simp [hl]
theorem flt_is {ls : List Ln} {f : Nat × Str × Int} (h : f ∈ fltT caps ls) : isFD caps ls (eF f) = true := by
  obtain ⟨x, h1, h2, h3⟩ := flt_mem caps _ ls rfl f h
  have hlt : f.1 < ls.length := (List.getElem?_eq_some_iff.mp h1).1
  show isF caps ls (f.1 : Nat) f.2.1 f.2.2 = true
  unfold isF
  rw [if_pos ⟨by omega, by omega⟩, Int.toNat_natCast, h1]
  dsimp only
  unfold judge
  rw [h2]
  dsimp only
  rw [decide_eq_true rfl, Bool.true_and]
  unfold tellT
  cases x with
  | day => exact decide_eq_true h3
  | count n => exact decide_eq_true h3
  | ride r c =>
    dsimp only
    split
    · rename_i hcap
      rw [hcap] at h2
      unfold wordT at h2
      dsimp only at h2
      have hs : smallT caps (readT caps (ls.take f.1)).1 r c ≠ [] ∧ ¬ c < 0 ∧ ¬ r.2 < c := by
        split at h2
        · exact absurd (Option.some.inj h2) (by decide +kernel)
        · split at h2
          · exact absurd (Option.some.inj h2) (by decide +kernel)
          · split at h2
            · rename_i a b c'; exact ⟨c', a, b⟩
            · split at h2
              · exact absurd (Option.some.inj h2) (by decide +kernel)
              · cases h2
      obtain ⟨s1, s2, s3⟩ := hs
      refine decide_eq_true ?_
      rw [h3]
      show (if c < 0 then r.2 else if r.2 < c then r.2 else match smallT caps (readT caps (ls.take f.1)).1 r c with
        | i :: _ => ((i : Nat) : Int)
        | [] => dueT caps (readT caps (ls.take f.1)).1 r) ∈ _
      rw [if_neg s2, if_neg s3]
      cases hsm : smallT caps (readT caps (ls.take f.1)).1 r c with
      | nil => exact absurd hsm s1
      | cons i is => simp
    · exact decide_eq_true h3
/-- places by way of zipIdx, of range -/
theorem zipIdx_range {α : Type} (p : α → Bool) : ∀ (n : Nat) (xs : List α), xs.length = n → (xs.zipIdx.filter fun q => p q.1).map (·.2) = (List.range n).filter fun i => (xs[i]?.map p).getD false
  | 0, xs, h => by rw [List.length_eq_zero_iff.mp h]; rfl
  | n + 1, xs, h => by
    obtain ⟨l, y, rfl⟩ : ∃ l y, xs = l ++ [y] := by
      have hne : xs ≠ [] := by rintro rfl; simp at h
      exact ⟨xs.dropLast, xs.getLast hne, (List.dropLast_concat_getLast hne).symm⟩
    have hl : l.length = n := by simpa using h
    have ih := zipIdx_range p n l hl
    have e1 : (List.range n).filter (fun i => ((l ++ [y])[i]?.map p).getD false) = (List.range n).filter (fun i => (l[i]?.map p).getD false) := by
      apply List.filter_congr
      intro i hi
      have hi : i < l.length := by rw [hl]; exact List.mem_range.mp hi
      rw [List.getElem?_append_left hi]
    rw [List.range_succ, List.filter_append, e1, ← ih, List.zipIdx_append, List.filter_append, List.map_append]
    congr 1
    rw [List.filter_cons, show ((l ++ [y])[n]?.map p).getD false = p y by rw [← hl]; simp]
    cases hp : p y <;> simp [hp, hl]
open Classical in
theorem diff_range (ls rs : List Ln) (h : ls.length = rs.length) : diffT ls rs = (List.range ls.length).filter fun i => (((ls.zip rs)[i]?).map fun p => !decide (eL p.1 = eL p.2)).getD false := by
  unfold diffT
  exact zipIdx_range (fun p : Ln × Ln => !decide (eL p.1 = eL p.2)) ls.length (ls.zip rs) (by rw [List.length_zip, ← h, Nat.min_self])
end
end K75

namespace K75
open PySem PySem.Spec L2 Nt
open PyProof.Rows hiding St
open PySem.W (alike alikeAll dataLe EachIs AllAlike Sortable)
/-! ### what is drawn -/
theorem take_eq : m__law_take = Nt.m_take := rfl
theorem some_eq : m__law_some = Nt.m_some := rfl
theorem mixed_eq : m__law_mixed = Nt.m_mixed := rfl
theorem alike_eq : m__law_alike = Nt.m_alike := rfl
theorem bag_eq : m__law_bag = Nt.m_bag := rfl
section
variable {S : Sto} {q : D → Sto → Prop} {b : Nat}
theorem okS_ints (xs : List Int) : okS (xs.map PyData.int) = true := by
  unfold okS
  rw [Bool.and_eq_true, Bool.and_eq_true, Bool.or_eq_true, Bool.or_eq_true]
  refine ⟨⟨List.all_eq_true.mpr fun p hp => List.all_eq_true.mpr fun q hq => ?_, .inl (.inr ?_)⟩, List.all_eq_true.mpr fun p hp => ?_⟩
  · obtain ⟨a, _, rfl⟩ := List.mem_map.mp hp
    obtain ⟨b, _, rfl⟩ := List.mem_map.mp hq
    rfl
  · refine List.all_eq_true.mpr fun p hp => ?_
    obtain ⟨a, _, rfl⟩ := List.mem_map.mp hp
    rfl
  · obtain ⟨a, _, rfl⟩ := List.mem_map.mp hp
    rfl
theorem sort_ints (xs : List Int) : sortD S [.lst (xs.map .int)] = some ((sorted' PyData.int xs).map .int) := sort_map D.int PyData.int xs (fun _ _ => rfl) (okS_ints xs)
theorem cut_ref {n : Nat} {xs : List D} {k : Nat} (h : S[n]? = some (.lst xs)) : slD S (.ref n) none (some (k : Int)) = some (.lst (xs.take k)) := by
  show (rdlD S (.ref n)).map (fun xs => D.lst (Nt.cutD xs none (some (k : Int)))) = _
  rw [rdl_ref h, Option.map_some, cut_toA]
def GoodZ (zs : List Int) : Prop := zs ≠ [] ∧ zs.Pairwise (· < ·) ∧ ∀ z ∈ zs, 1 ≤ z ∧ z ≤ 8
theorem sorted_ints (xs : List Int) (h : xs.Nodup) : (sorted' PyData.int xs).Pairwise (· < ·) := by
  have e : (fun a b => dataLe false PyData.int a b) = fun a b => decide (a ≤ b) := PySem.W.dataLe_int (id : Int → Int)
  have h1 : (sorted' PyData.int xs).Pairwise (fun a b => decide (a ≤ b) = true) := by
    unfold sorted'
    rw [e]
    exact List.pairwise_mergeSort (fun a b c h1 h2 => by simp at *; omega) (fun a b => by simp; omega) xs
  have h2 : (sorted' PyData.int xs).Nodup := (sorted_perm PyData.int xs).nodup_iff.mpr h
  exact (h1.and h2).imp fun {a b} ⟨p, q⟩ => by simp at p; omega
theorem zones_ok (h : Bag S b) {most : Int} (h0 : 1 ≤ most) (h1 : most ≤ 8) : Wp (m__law_zones [.ref b, .int most]) S fun d S' => (∃ zs : List Int, d = eI zs ∧ zs.length ≤ 1000 ∧ GoodZ zs) ∧ Dr S S' b := by
  unfold m__law_zones b__law_zones
  rw [take_eq, mixed_eq]
  obtain ⟨m, rfl⟩ : ∃ m : Nat, most = m := ⟨most.toNat, by omega⟩
  simp [wp_rgL]
  refine ⟨by omega, ?_⟩
  have hm := mixed_dr h D.int ((List.range m).map fun i => (1 : Int) + (i : Nat)) (fun _ _ => rfl) (fun _ _ => Nat.zero_le _) (by simp; omega) (d0 := .lst (((List.range m).map fun i => (1 : Int) + (i : Nat)).map D.int)) rfl
  rw [List.map_map] at hm
  refine Wp.mono hm ?_
  rintro d S1 ⟨rfl, ys, hperm, hF, hD⟩
  refine Wp.mono (take_dr hD.bag (m := (m : Int)) (by omega) (by omega)) ?_
  rintro d S2 ⟨v, rfl, h2, h3, h4⟩
  have hlt := (List.getElem?_eq_some_iff.mp hF).1
  have hb := h.lt
  have hF2 : S2[S.length + 1]? = some (.lst (ys.map D.int)) := by rw [h3.same _ hlt (by omega)]; exact hF
  have e : (1 : Int) + (v : Nat) = ((1 + v : Nat) : Int) := by omega
  simp
  rw [e, cut_ref hF2, ← List.map_take]
  simp only [So_some]
  rw [sort_ints]
  simp
  have hpl := hperm.length_eq
  simp at hpl
  refine ⟨⟨_, rfl, ?_, ?_, ?_, ?_⟩, hD.trans h3⟩
  · rw [(sorted_perm _ _).length_eq, List.length_take]
    omega
  · intro hnil
    have := (sorted_perm PyData.int (ys.take (1 + v))).length_eq
    rw [hnil, List.length_take] at this
    simp at this
    omega
  · refine sorted_ints _ ((List.take_sublist _ _).nodup (hperm.nodup_iff.mpr ?_))
    exact List.Pairwise.map _ (fun a b (hab : a ≠ b) => by omega) List.nodup_range
  · intro z hz
    have hz := hperm.mem_iff.mp (List.mem_of_mem_take ((sorted_perm _ _).mem_iff.mp hz))
    simp at hz
    obtain ⟨i, hi, rfl⟩ := hz
    omega
def IsRide (price : Int) (d : D) : Prop := ∃ r : Ride, d = eR r ∧ 0 ≤ r.2 ∧ r.2 ≤ price ∧ r.1.length ≤ 1000 ∧ GoodZ r.1
def IsCaps (n : Nat) (price : Int) (d : D) : Prop := ∃ caps : List Ride, d = eRs caps ∧ caps.length ≤ n ∧ ∀ c ∈ caps, 0 ≤ c.2 ∧ c.2 ≤ price ∧ GoodZ c.1
theorem ride_ok (h : Bag S b) {most price : Int} (h0 : 1 ≤ most) (h1 : most ≤ 8) (h2 : 0 ≤ price) (h3 : price ≤ 1000) : Wp (m__law_ride [.ref b, .int most, .int price]) S fun d S' => IsRide price d ∧ Dr S S' b := by
  unfold m__law_ride b__law_ride
  rw [take_eq]
  have h2' : (2 : Nat) ≤ sizeLine := by decide
  simp [h2']
  refine Wp.mono (zones_ok h h0 h1) ?_
  rintro d S1 ⟨⟨zs, rfl, hz, hgz⟩, hD⟩
  refine Wp.mono (take_dr hD.bag (m := price + 1) (by omega) (by omega)) ?_
  rintro d S2 ⟨v, rfl, h4, h5, _⟩
  exact ⟨⟨(zs, (v : Int)), rfl, by simp, by simp; omega, hz, hgz⟩, hD.trans h5⟩
/-- a ride as data -/
def pR (r : Ride) : PyData := .tuple [.tuple (r.1.map .int), .int r.2]
theorem toP_eI (z : List Int) : toP S (eI z) = some (.tuple (z.map .int)) := by
  unfold eI toP
  rw [toPs_map D.int PyData.int z fun _ _ => rfl]
  rfl
theorem toP_eR (r : Ride) : toP S (eR r) = some (pR r) := by
  unfold eR toP toPs
  rw [toP_eI]
  rfl
theorem okS_rides (rs : List Ride) : okS (rs.map pR) = true := by
  unfold okS
  rw [Bool.and_eq_true, Bool.and_eq_true, Bool.or_eq_true, Bool.or_eq_true]
  refine ⟨⟨List.all_eq_true.mpr fun p hp => List.all_eq_true.mpr fun q hq => ?_, .inl (.inl ?_)⟩, List.all_eq_true.mpr fun p hp => ?_⟩
  · obtain ⟨a, _, rfl⟩ := List.mem_map.mp hp
    obtain ⟨b, _, rfl⟩ := List.mem_map.mp hq
    have := alike_ints id id a.1 b.1
    simp only [id] at this
    simp [pR, alike, alikeAll, this]
  · refine List.all_eq_true.mpr fun p hp => ?_
    obtain ⟨a, _, rfl⟩ := List.mem_map.mp hp
    rfl
  · obtain ⟨a, _, rfl⟩ := List.mem_map.mp hp
    refine decide_eq_true ?_
    have h : ∀ xs : List Int, PyData.depthAll (xs.map PyData.int) ≤ 10 := by
      intro xs
      induction xs with
      | nil => exact Nat.zero_le _
      | cons x xs ih => rw [List.map_cons]; unfold PyData.depthAll; simp [PyData.depth]; omega
    have := h a.1
    simp [pR, PyData.depth, PyData.depthAll]
    omega
theorem sort_rides (rs : List Ride) : sortD S [.lst (rs.map eR)] = some ((sorted' pR rs).map eR) := sort_map eR pR rs (fun _ _ => toP_eR _) (okS_rides rs)
def AllR (price : Int) (rs : List Ride) : Prop := ∀ c ∈ rs, 0 ≤ c.2 ∧ c.2 ≤ price ∧ GoodZ c.1
theorem passes_ok (h : Bag S b) {many most price : Int} (h0 : 1 ≤ most) (h1 : most ≤ 8) (h2 : 0 ≤ price) (h3 : price ≤ 1000) (h4 : 0 ≤ many) (h5 : many ≤ 4) : Wp (m__law_passes [.ref b, .int many, .int most, .int price]) S fun d S' => IsCaps 5 price d ∧ Dr S S' b := by
  unfold m__law_passes b__law_passes
  rw [take_eq]
  simp [wipeD, wp_iRg1]
  refine Wp.mono (take_dr h (m := many + 1) (by omega) (by omega)) ?_
  rintro d S1 ⟨n, rfl, hn, hD, _⟩
  rw [wp_rg (by omega)]
  refine wp_lcI (fun i : Nat => D.int (i : Nat)) (List.range n) (fun i ds S' => ∃ rs : List Ride, ds = rs.map eR ∧ rs.length = i ∧ AllR price rs ∧ Dr S S' b) ⟨[], rfl, rfl, fun _ h => by simp at h, hD⟩ (fun _ _ _ _ => trivial) ?_ ?_
  · rintro i k ds S2 hk ⟨rs, rfl, rfl, hrs, hD2⟩
    simp [lN, setAll]
    refine Wp.mono (ride_ok hD2.bag h0 h1 h2 h3) ?_
    rintro d S3 ⟨⟨r, rfl, hr1, hr2, _, hgz⟩, hD3⟩
    refine ⟨rs ++ [r], by simp [eR], by simp, ?_, hD2.trans hD3⟩
    intro c hc
    rcases List.mem_append.mp hc with hc | hc
    · exact hrs c hc
    · rw [List.mem_singleton.mp hc]; exact ⟨hr1, hr2, hgz⟩
  · rintro ds S2 ⟨rs, rfl, hl, hrs, hD2⟩
    rw [List.length_range] at hl
    refine Wp.mono (take_dr hD2.bag (m := 6) (by omega) (by omega)) ?_
    rintro d S3 ⟨v, rfl, _, hD3, _⟩
    have hcut : ∀ k : Nat, slD S3 (.lst (rs.map eR)) none (some (k : Int)) = some (.lst ((rs.take k).map eR)) := fun k => by
      show (rdlD S3 (.lst (rs.map eR))).map (fun xs => D.lst (Nt.cutD xs none (some (k : Int)))) = _
      rw [rdlD_lst, Option.map_some, cut_toA, List.map_take]
    obtain ⟨k, hk, hk1⟩ : ∃ k : Nat, (if (v : Int) = 0 then (1 : Int) else 0) = (k : Nat) ∧ k ≤ 1 := by
      by_cases hv : (v : Int) = 0
      · exact ⟨1, by rw [if_pos hv]; rfl, Nat.le_refl _⟩
      · exact ⟨0, by rw [if_neg hv]; rfl, Nat.zero_le _⟩
    have hk' : (if v = 0 then (1 : Int) else 0) = (k : Nat) := by
      rw [← hk]
      by_cases hv : v = 0 <;> simp [hv]
    simp [hk', hcut]
    rw [add_lst (by simp [sizeLine_eq]; omega), So_some, ← List.map_take, ← List.map_append, sort_rides]
    simp
    refine ⟨⟨sorted' pR (rs ++ rs.take k), rfl, ?_, ?_⟩, hD2.trans hD3⟩
    · rw [(sorted_perm _ _).length_eq, List.length_append, List.length_take]
      omega
    · intro c hc
      have hc := (sorted_perm _ _).mem_iff.mp hc
      rcases List.mem_append.mp hc with hc | hc
      · exact hrs _ hc
      · exact hrs _ (List.mem_of_mem_take hc)
end
end K75

namespace K75
open PySem PySem.Spec L2 Nt
open PyProof.Rows hiding St
theorem strOk_of (s : String) : PyData.strOk (Str.ofString s) = true := by
  rw [Str.ofString_eq_toList]
  unfold PyData.strOk
  simp
  intro c _
  have := c.valid
  unfold UInt32.isValidChar Nat.isValidChar at this
  have e : c.toNat = c.val.toNat := rfl
  omega
theorem strOk_app {a b : Str} (ha : PyData.strOk a = true) (hb : PyData.strOk b = true) : PyData.strOk (a ++ b) = true := by
  unfold PyData.strOk at *
  have e : (a ++ b).cps = a.cps ++ b.cps := rfl
  rw [e, Array.all_append, ha, hb]
  rfl
theorem strOk_cut {a : Str} (lo hi : Option Int) (ha : PyData.strOk a = true) : PyData.strOk (L2.cutS a lo hi) = true := by
  unfold PyData.strOk at *
  unfold L2.cutS
  rw [List.all_toArray, List.all_eq_true]
  intro x hx
  rw [← Array.all_toList, List.all_eq_true] at ha
  exact ha x (List.mem_of_mem_drop (List.mem_of_mem_take hx))
/-- one of the five words -/
def W5 (w : Str) : Prop := w = "below" ∨ w = "fare" ∨ w = "cap" ∨ w = "little" ∨ w = "count"
theorem W5.ok {w : Str} (h : W5 w) : PyData.strOk w = true := by
  rcases h with rfl | rfl | rfl | rfl | rfl <;> exact strOk_of _
theorem W5.len {w : Str} (h : W5 w) : w.length ≤ 6 := by
  rcases h with rfl | rfl | rfl | rfl | rfl <;> decide +kernel
theorem W5.up {w : Str} (h : W5 w) : PyData.strOk (Txt.upper w) = true := by
  rcases h with rfl | rfl | rfl | rfl | rfl <;> decide +kernel
theorem word_w5 {caps : List Ride} {left : List Int} {m : Int} {x : Ln} {w : Str} (h : wordT caps left m x = some w) : W5 w := by
  unfold wordT at h
  cases x with
  | day => cases h
  | count k =>
    dsimp only at h
    split at h
    · cases h
    · cases h; exact .inr (.inr (.inr (.inr rfl)))
  | ride r c =>
    dsimp only at h
    split at h
    · cases h; exact .inl rfl
    · split at h
      · cases h; exact .inr (.inl rfl)
      · split at h
        · cases h; exact .inr (.inr (.inl rfl))
        · split at h
          · cases h; exact .inr (.inr (.inr (.inl rfl)))
          · cases h
/-- no list of the store, a good text -/
def leafB : D → Bool
  | .ref _ => false
  | .str x => PyData.strOk x
  | _ => true
def askB : D → Bool
  | .tup xs => xs.all leafB
  | d => leafB d
theorem ask_of {d : D} (h : askB d = true) : Ask d := by
  cases d with
  | ref n => simp [askB, leafB] at h
  | tup xs =>
    intro x hx
    have := List.all_eq_true.mp h x hx
    refine ⟨fun n e => ?_, fun y e => ?_⟩
    · subst e; simp [leafB] at this
    · subst e; exact this
  | _ => trivial
def oddL : List D := [.non, .bl true, .bl false, .int 0, .int 1, .int (-1), .int 8, .int 9, .int 12, .int 1000000000000000000000000000000000000000, .str "", .str "ash", .str "zone", .str "Ash", .tup [], .lst [], .dct [], .tup [.int 0], .lst [.int 0], .tup [.int 1, .int 2], .tup [.int 2, .int 1], .tup [.tup [], .tup []]] ++
  [.tup [.str "ash", .int 1], .dct [(.str "ash", .int 0)], .tup [.int 0, .bl true], .tup [.int 0, .int 0, .int 0], .tup [.tup [.int 1], .int 5], .str "zz"]
theorem odd_leaf : oddL.all leafB = true := by decide +kernel
theorem odd_ask : oddL.all askB = true := by decide +kernel
section
variable {S : Sto} {q : D → Sto → Prop} {b : Nat}
theorem wp_eTup_nil {ρ : Nv} {qd : D → Sto → Prop} : Wp (eTup aNil ρ) S qd = qd (.tup []) S := by
  rw [wp_eTup, wp_aNil, if_pos (show ([] : List D).length ≤ sizeLine from Nat.zero_le _)]
theorem pow39 : powD S (.int 10) (.int 39) = some (.int 1000000000000000000000000000000000000000) := by
  rw [pow_1039]
  rfl
theorem odd_ok (h : Bag S b) : Wp (m__law_odd [.ref b]) S fun d S' => d ∈ oddL ∧ Dr S S' b := by
  unfold m__law_odd b__law_odd
  rw [some_eq]
  have h0 : (0 : Nat) ≤ sizeLine := by decide
  have h1 : (1 : Nat) ≤ sizeLine := by decide
  have h2 : (2 : Nat) ≤ sizeLine := by decide
  have h3 : (3 : Nat) ≤ sizeLine := by decide
  have h22 : (22 : Nat) ≤ sizeLine := by decide
  have h6 : (6 : Nat) ≤ sizeLine := by decide
  simp [h1, h2, h3, h22, h6, pow39]
  rw [add_lst (by simp [sizeLine_eq]), So_some]
  refine Wp.mono (some_dr h (xs := oddL) (by simp [oddL]) (by simp [oddL])) ?_
  rintro d S' ⟨h1, h2, _⟩
  exact ⟨h1, h2⟩
theorem odd_okB (h : Bag S b) : Wp (m__law_odd [.ref b]) S fun d S' => leafB d = true ∧ askB d = true ∧ Dr S S' b := by
  refine Wp.mono (odd_ok h) ?_
  rintro d S' ⟨h1, h2⟩
  exact ⟨List.all_eq_true.mp odd_leaf d h1, List.all_eq_true.mp odd_ask d h1, h2⟩
end
end K75

namespace K75
open PySem PySem.Spec L2 Nt
open PyProof.Rows hiding St
/-- a drawn line -/
def LineOk : Ln → Prop
  | .ride r c => 0 ≤ r.2 ∧ r.2 ≤ 9 ∧ -1 ≤ c ∧ c ≤ 12 ∧ r.1.length ≤ 1000 ∧ GoodZ r.1
  | .count k => -500 ≤ k ∧ k ≤ 500
  | .day => True
def RecOk (d : D) : Prop := ∃ ls : List Ln, d = eLs ls ∧ ls.length ≤ 10 ∧ ∀ x ∈ ls, LineOk x
def LsOk (ls : List Ln) : Prop := ∀ x ∈ ls, LineOk x
theorem LsOk.snoc {ls : List Ln} {x : Ln} (h : LsOk ls) (hx : LineOk x) : LsOk (ls ++ [x]) := fun y hy => by
  rcases List.mem_append.mp hy with hy | hy
  · exact h y hy
  · rw [List.mem_singleton.mp hy]; exact hx
theorem money_bd (caps : List Ride) : ∀ (n : Nat) (ls : List Ln), ls.length = n → LsOk ls → -((n : Int)) ≤ (readT caps ls).2 ∧ (readT caps ls).2 ≤ 12 * (n : Int)
  | 0, ls, h, _ => by
    rw [List.length_eq_zero_iff.mp h]
    simp [readT]
  | n + 1, ls, h, hl => by
    obtain ⟨l, y, rfl⟩ : ∃ l y, ls = l ++ [y] := by
      have hne : ls ≠ [] := by rintro rfl; simp at h
      exact ⟨ls.dropLast, ls.getLast hne, (List.dropLast_concat_getLast hne).symm⟩
    have ih := money_bd caps n l (by simpa using h) fun x hx => hl x (List.mem_append_left _ hx)
    have hy := hl y (by simp)
    rw [read_snoc]
    cases y with
    | day => show -(((n + 1 : Nat) : Int)) ≤ 0 ∧ (0 : Int) ≤ 12 * ((n + 1 : Nat) : Int); omega
    | count k => show _ ≤ (readT caps l).2 ∧ (readT caps l).2 ≤ _; omega
    | ride r c =>
      obtain ⟨_, _, h3, h4, _, _⟩ := hy
      show _ ≤ (readT caps l).2 + c ∧ (readT caps l).2 + c ≤ _
      omega
section
variable {S : Sto} {q : D → Sto → Prop} {b : Nat} {caps : List Ride}
theorem len_Ls (ls : List Ln) : lenD S [eLs ls] = some (.int ls.length) := by unfold eLs; simp
theorem init_Ls (ls : List Ln) (x : Ln) : slD S (eLs (ls ++ [x])) none (some (-1)) = some (eLs ls) := by
  unfold slD eLs
  dsimp only
  have e : Nt.cutD ((ls ++ [x]).map eL) none (some (-1)) = ls.map eL := by
    unfold Nt.cutD
    rw [HT.sIx_none]
    have e2 : HT.sIx ((ls ++ [x]).map eL).length ((ls ++ [x]).map eL).length (some (-1)) = ls.length := by
      unfold HT.sIx
      dsimp only
      rw [if_pos (by omega)]
      simp
      omega
    rw [e2, List.drop_zero, Nat.sub_zero, List.map_append, List.take_left' (by simp)]
  rw [e]
theorem due_le (left : List Int) (r : Ride) : dueT caps left r ≤ r.2 := (due_spec left r).2.1
theorem record_ok (h : Bag S b) (hc : caps.length ≤ 5) : Wp (m__law_record [.ref b, eRs caps, .int 10]) S fun d S' => RecOk d ∧ Dr S S' b := by
  unfold m__law_record b__law_record
  rw [some_eq, take_eq]
  have h1 : (1 : Nat) ≤ sizeLine := by decide
  have h2 : (2 : Nat) ≤ sizeLine := by decide
  have h3 : (3 : Nat) ≤ sizeLine := by decide
  have h5 : (5 : Nat) ≤ sizeLine := by decide
  have h7 : (7 : Nat) ≤ sizeLine := by decide
  simp [wp_iRg1]
  refine Wp.mono (take_dr h (m := 11) (by omega) (by omega)) ?_
  rintro d S1 ⟨n, rfl, hn, hD, _⟩
  rw [wp_rg (by omega)]
  refine ws_loop (fun i : Nat => D.int (i : Nat)) (List.range n) (fun i ρ S' => (∃ (ls : List Ln) (a b1 c d : Option D), ρ = [some (.ref b), some (eRs caps), some (.int 10), some (eLs ls), a, b1, c, d] ∧ ls.length = i ∧ LsOk ls) ∧ Dr S S' b) ⟨⟨[], none, none, none, none, rfl, rfl, fun _ h => by simp at h⟩, hD⟩ (fun _ _ _ _ => trivial) ?_ ?_
  · rintro i k ρ S2 hk ⟨⟨ls, a, b1, c, d, rfl, rfl, hls⟩, hD2⟩
    have hlen : ls.length < n := by have := (List.getElem?_eq_some_iff.mp hk).1; simpa using this
    have done : ∀ (x : Ln) (S' : Sto), LineOk x → Dr S S' b → (∃ l : List Ln, eLs (ls ++ [x]) = eLs l ∧ l.length = ls.length + 1 ∧ LsOk l) ∧ Dr S S' b :=
      fun x S' hx hD' => ⟨⟨ls ++ [x], rfl, by simp, hls.snoc hx⟩, hD'⟩
    have adds : ∀ (S : Sto) (x : Ln), addD S (eLs ls) (.tup [eL x]) = some (eLs (ls ++ [x])) := fun S x => add_lns (S := S) (a := ls) (b := [x]) (by simp; omega)
    simp [gL, lN, setAll]
    refine Wp.mono (take_dr hD2.bag (m := 8) (by omega) (by omega)) ?_
    rintro e S3 ⟨way, rfl, hw, hD3, _⟩
    have hD3 := hD2.trans hD3
    have a0 : ∀ S, addD S (eLs ls) (.tup [.tup [.str "day"]]) = some (eLs (ls ++ [.day])) := fun S => adds S .day
    by_cases hw0 : way = 0
    · simp [hw0, h1, a0]
      exact done _ _ trivial hD3
    · by_cases hw1 : way = 1
      · have hm : ∀ {S : Sto} {q : D → Sto → Prop}, Wp (m__law_money [eLs ls, .int (ls.length : Nat)]) S q = q (.int (readT caps (ls.take ls.length)).2) S := fun {S q} => law_money_ok caps ls ls.length (Nat.le_refl _)
        simp [hw1, len_Ls, hm, h5]
        refine Wp.mono (some_dr hD3.bag (by simp) (by simp)) ?_
        rintro e S4 ⟨he, hD4, _⟩
        have hmb := money_bd caps ls.length ls rfl hls
        obtain ⟨k, rfl, hk1, hk2⟩ : ∃ k : Int, e = .int k ∧ -1 ≤ k ∧ k ≤ 1 := by
          simp at he
          rcases he with rfl | rfl | rfl | rfl | rfl <;> exact ⟨_, rfl, by omega, by omega⟩
        have a2 : ∀ S k, addD S (eLs ls) (.tup [.tup [.str "count", .int k]]) = some (eLs (ls ++ [.count k])) := fun S k => adds S (.count k)
        simp [h1, h2, a2]
        refine done _ _ ?_ (hD3.trans hD4)
        exact ⟨by omega, by omega⟩
      · have e0 : ¬ ((way : Int) = 0) := by omega
        have e1 : ¬ ((way : Int) = 1) := by omega
        simp [hw0, hw1, e0, e1]
        refine Wp.mono (ride_ok hD3.bag (by omega) (by omega) (by omega) (by omega)) ?_
        rintro e S4 ⟨⟨r, rfl, hr1, hr2, hr3, hgz⟩, hD4⟩
        have a3 : ∀ S k, addD S (eLs ls) (.tup [.tup [.str "ride", eR r, .int k]]) = some (eLs (ls ++ [.ride r k])) := fun S k => adds S (.ride r k)
        have hx : (ls ++ [Ln.ride r 0])[ls.length]? = some (Ln.ride r 0) := by simp
        have hd : ∀ {S : Sto} {q : D → Sto → Prop}, Wp (m__law_due [eRs caps, eLs (ls ++ [Ln.ride r 0]), .int (ls.length : Nat)]) S q = q (.int (dueT caps (readT caps ((ls ++ [Ln.ride r 0]).take ls.length)).1 r)) S := fun {S q} => law_due_ok _ _ _ _ hx hr1 (by omega)
        have hsub : ∀ S, subD S (.int ((ls.length : Int) + 1)) (.int 1) = some (.int ls.length) := fun S => by simp
        simp [h1, h3, a3, len_Ls, hd, h7]
        have hdn := due_nn (caps := caps) (readT caps ls).1 r hr1
        have hdl := due_le (caps := caps) (readT caps ls).1 r
        refine Wp.mono (some_dr hD4.bag (by simp) (by simp)) ?_
        rintro e S5 ⟨he, hD5, _⟩
        obtain ⟨k, rfl, hk1, hk2⟩ : ∃ k : Int, e = .int k ∧ -1 ≤ k ∧ k ≤ 3 := by
          simp at he
          rcases he with rfl | rfl | rfl | rfl | rfl | rfl | rfl <;> exact ⟨_, rfl, by omega, by omega⟩
        simp [init_Ls, h1, h3, a3]
        exact done _ _ ⟨hr1, hr2, by omega, by omega, hr3, hgz⟩ (hD3.trans (hD4.trans hD5))
  · rintro ρ S2 ⟨⟨ls, a, b1, c, d, rfl, hl, hls⟩, hD2⟩
    rw [List.length_range] at hl
    simp
    exact ⟨⟨ls, rfl, by omega, hls⟩, hD2⟩
end
end K75

/-! values of any kind: what repr asks -/
namespace Nx
open PySem PySem.Spec L2 Nt
open PyProof.Rows hiding St
def kOk : List (D × D) → Bool
  | [] => true
  | [(.str k, .int v)] => PyData.strOk k && decide (v.natAbs < 10 ^ 45)
  | _ => false
mutual
def vOk : D → Bool
  | .non => true
  | .bl _ => true
  | .int i => decide (i.natAbs < 10 ^ 45)
  | .str x => PyData.strOk x
  | .tup ds => vOks ds
  | .lst ds => vOks ds
  | .dct kvs => kOk kvs
  | _ => false
def vOks : List D → Bool
  | [] => true
  | d :: ds => vOk d && vOks ds
end
mutual
def hasD : D → Bool
  | .tup ds => hasDs ds
  | .lst ds => hasDs ds
  | .dct _ => true
  | _ => false
def hasDs : List D → Bool
  | [] => false
  | d :: ds => hasD d || hasDs ds
end
mutual
def noLD : D → Bool
  | .lst _ => false
  | .tup ds => noLDs ds
  | _ => true
def noLDs : List D → Bool
  | [] => true
  | d :: ds => noLD d && noLDs ds
end
def kW : List (D × D) → Nat
  | [(.str k, .int _)] => k.cps.size + 160
  | _ => 0
mutual
def wD : D → Nat
  | .str x => x.cps.size
  | .int _ => 150
  | .tup ds => wDs ds
  | .lst ds => wDs ds
  | .dct kvs => kW kvs
  | _ => 0
def wDs : List D → Nat
  | [] => 0
  | d :: ds => wD d + 1 + wDs ds
end
mutual
def dD : D → Nat
  | .tup ds => dDs ds + 1
  | .lst ds => dDs ds + 1
  | .dct _ => 1
  | _ => 0
def dDs : List D → Nat
  | [] => 0
  | d :: ds => max (dD d) (dDs ds)
end
theorem int_fact {i : Int} (h : i.natAbs < 10 ^ 45) : (PyData.int i).showable = true ∧ (PyData.int i).leavesShort 60 = true ∧ (PyData.int i).weight ≤ 150 := by
  have hl : i.natAbs.log2 < 150 := by
    by_cases h0 : i.natAbs = 0
    · rw [h0]; decide
    · exact (Nat.log2_lt h0).mpr (Nat.lt_trans h (by decide))
  refine ⟨?_, ?_, ?_⟩
  · simp [PyData.showable]; omega
  · have := int_text_length_le10 (k := 45) (by decide) h
    have e : (PyData.int i).shown.length ≤ 60 := by
      show (Str.ofString (toString i)).length ≤ 60
      rw [PySem.ofString_length]
      omega
    unfold PyData.leavesShort
    exact decide_eq_true e
  · simp [PyData.weight]
    split <;> omega
theorem str_fact {x : Str} (h : PyData.strOk x = true) : (PyData.str x).leavesShort 60 = true := by
  unfold PyData.strOk at h
  unfold PyData.leavesShort
  rw [List.all_eq_true]
  intro c hc
  rw [Array.all_eq_true'] at h
  have := h c (by simpa using hc)
  simp at this ⊢
  omega
structure RFact (d : D) (p : PyData) : Prop where
  sh : p.showable = true
  ls : p.leavesShort 60 = true
  wt : p.weight ≤ wD d
  dp : p.depth ≤ dD d
  hd : p.hasDict = true → hasD d = true
  nl : noLD d = true → noL p = true
structure RFacts (ds : List D) (ps : List PyData) : Prop where
  sh : PyData.showableAll ps = true
  ls : PyData.leavesShortAll 60 ps = true
  wt : PyData.weightAll ps ≤ wDs ds
  dp : PyData.depthAll ps ≤ dDs ds
  hd : PyData.hasDictAll ps = true → hasDs ds = true
  nl : noLDs ds = true → noLs ps = true
mutual
theorem rfact : ∀ d : D, vOk d = true → ∃ p, toR d = some p ∧ RFact d p
  | .non, _ => ⟨_, rfl, rfl, rfl, Nat.zero_le _, Nat.zero_le _, fun h => by simp [PyData.hasDict] at h, fun _ => rfl⟩
  | .bl b, _ => ⟨_, rfl, rfl, rfl, Nat.zero_le _, Nat.zero_le _, fun h => by simp [PyData.hasDict] at h, fun _ => rfl⟩
  | .int i, h => by
    obtain ⟨a, b, c⟩ := int_fact (i := i) (by simpa [vOk] using h)
    exact ⟨_, rfl, a, b, c, Nat.zero_le _, fun h => by simp [PyData.hasDict] at h, fun _ => rfl⟩
  | .str x, h => ⟨_, rfl, rfl, str_fact h, Nat.le_refl _, Nat.zero_le _, fun h => by simp [PyData.hasDict] at h, fun _ => rfl⟩
  | .tup ds, h => by
    obtain ⟨ps, e, f⟩ := rfacts ds h
    refine ⟨.tuple ps, by unfold toR; rw [e]; rfl, f.sh, f.ls, f.wt, Nat.succ_le_succ f.dp, f.hd, f.nl⟩
  | .lst ds, h => by
    obtain ⟨ps, e, f⟩ := rfacts ds h
    refine ⟨.list ps, by unfold toR; rw [e]; rfl, f.sh, f.ls, f.wt, Nat.succ_le_succ f.dp, f.hd, fun h => by simp [noLD] at h⟩
  | .dct kvs, h => by
    have h : kOk kvs = true := h
    unfold kOk at h
    split at h
    · exact ⟨_, rfl, rfl, rfl, Nat.zero_le _, Nat.le_refl _, fun _ => rfl, fun _ => rfl⟩
    · rename_i k v
      rw [Bool.and_eq_true, decide_eq_true_eq] at h
      obtain ⟨a, b, c⟩ := int_fact h.2
      refine ⟨_, rfl, ?_, ?_, ?_, ?_, fun _ => rfl, fun _ => rfl⟩
      · simp [PyData.showable, PyData.showableKv] at a ⊢; exact a
      · simp only [PyData.leavesShort, PyData.leavesShortKv, Bool.and_true]
        have e1 := str_fact h.1
        rw [Bool.and_eq_true]
        exact ⟨e1, b⟩
      · simp only [PyData.weight, PyData.weightKv, wD, kW] at c ⊢
        omega
      · simp [PyData.depth, PyData.depthKv, dD]
    · cases h
  | .scr _, h => by simp [vOk] at h
  | .ref _, h => by simp [vOk] at h
theorem rfacts : ∀ ds : List D, vOks ds = true → ∃ ps, toRs ds = some ps ∧ RFacts ds ps
  | [], _ => ⟨[], rfl, rfl, rfl, Nat.zero_le _, Nat.zero_le _, fun h => by simp [PyData.hasDictAll] at h, fun _ => rfl⟩
  | d :: ds, h => by
    rw [vOks, Bool.and_eq_true] at h
    obtain ⟨p, e1, f⟩ := rfact d h.1
    obtain ⟨ps, e2, g⟩ := rfacts ds h.2
    refine ⟨p :: ps, by unfold toRs; rw [e1, e2]; rfl, ?_, ?_, ?_, ?_, ?_, ?_⟩
    · rw [PyData.showableAll, f.sh, g.sh]; rfl
    · rw [PyData.leavesShortAll, f.ls, g.ls]; rfl
    · rw [PyData.weightAll, wDs]; have := f.wt; have := g.wt; omega
    · rw [PyData.depthAll, dDs]; have := f.dp; have := g.dp; omega
    · rw [PyData.hasDictAll, hasDs, Bool.or_eq_true, Bool.or_eq_true]
      exact fun h => h.imp f.hd g.hd
    · rw [noLDs, noLs, Bool.and_eq_true, Bool.and_eq_true]
      exact fun h => ⟨f.nl h.1, g.nl h.2⟩
end
/-- a value that repr may be asked of -/
def rOk (d : D) : Bool := vOk d && decide (dD d ≤ 60) && (!hasD d || noLD d) && decide (wD d ≤ 200000)
theorem repr_d {d : D} (h : rOk d = true) : ∃ x : Str, ∀ S : Sto, reprD S [d] = some (.str x) := by
  unfold rOk at h
  simp only [Bool.and_eq_true, decide_eq_true_eq, Bool.or_eq_true, Bool.not_eq_true'] at h
  obtain ⟨⟨⟨h1, h2⟩, h3⟩, h4⟩ := h
  obtain ⟨p, e, f⟩ := rfact d h1
  refine ⟨p.shown, fun S => ?_⟩
  unfold reprD
  dsimp only
  rw [e, Option.bind_some, if_pos]
  refine ⟨f.sh, Nat.le_trans f.dp h2, fun hd => ?_, ?_⟩
  · rcases h3 with h3 | h3
    · rw [f.hd hd] at h3; cases h3
    · exact f.nl h3
  · have := PyData.shown_le 60 (by decide) p f.ls
    have hw := f.wt
    have : 62 * p.weight + 60 ≤ 62 * 200000 + 60 := by omega
    have e3 : (62 * 200000 + 60 : Nat) ≤ sizeLine := by decide
    omega
end Nx

namespace K75
open PySem PySem.Spec L2 Nt Nx
open PyProof.Rows hiding St
/-! ### forms of values of any kind -/
def toI : D → Int
  | .int i => i
  | _ => 0
theorem ints_of : ∀ {xs : List D}, xs.all isI = true → ∃ ns : List Int, xs = ns.map .int
  | [], _ => ⟨[], rfl⟩
  | d :: xs, h => by
    rw [List.all_cons, Bool.and_eq_true] at h
    obtain ⟨ns, rfl⟩ := ints_of h.2
    cases d with
    | int i => exact ⟨i :: ns, rfl⟩
    | _ => simp [isI] at h
theorem ints_all (ns : List Int) : (ns.map D.int).all isI = true := by simp [isI]
def risB (ns : List Int) : Bool := (ns.zip ns.tail).all fun p => decide (p.1 < p.2)
def goodZ (ns : List Int) : Bool := risB ns && !ns.isEmpty && decide (1 ≤ ns.headD 0) && decide (ns.getLastD 0 ≤ 8)
def zonB : D → Bool
  | .tup xs => xs.all isI && goodZ (xs.map toI)
  | _ => false
def intsB : D → Bool
  | .tup xs => xs.all isI
  | _ => false
def risD : D → Bool
  | .tup xs => xs.all isI && risB (xs.map toI)
  | _ => false
theorem map_toI (ns : List Int) : (ns.map D.int).map toI = ns := by
  rw [List.map_map]
  have : toI ∘ D.int = id := rfl
  rw [this, List.map_id]
theorem intsB_ints (ns : List Int) : intsB (.tup (ns.map .int)) = true := ints_all ns
theorem risD_ints (ns : List Int) : risD (.tup (ns.map .int)) = risB ns := by
  show ((ns.map D.int).all isI && risB ((ns.map D.int).map toI)) = _
  rw [ints_all, map_toI, Bool.true_and]
theorem zonB_ints (ns : List Int) : zonB (.tup (ns.map .int)) = goodZ ns := by
  show ((ns.map D.int).all isI && goodZ ((ns.map D.int).map toI)) = _
  rw [ints_all, map_toI, Bool.true_and]
theorem risD_no {d : D} (h : intsB d = false) : risD d = false := by
  cases d with
  | tup xs => show (xs.all isI && _) = false; rw [show xs.all isI = false from h]; rfl
  | _ => rfl
theorem zonB_no {d : D} (h : intsB d = false) : zonB d = false := by
  cases d with
  | tup xs => show (xs.all isI && _) = false; rw [show xs.all isI = false from h]; rfl
  | _ => rfl
theorem intsB_yes {d : D} (h : intsB d = true) : ∃ ns : List Int, d = .tup (ns.map .int) := by
  unfold intsB at h
  split at h
  · obtain ⟨ns, rfl⟩ := ints_of h
    exact ⟨ns, rfl⟩
  · cases h
theorem noref {d : D} (h : vOk d = true) (n : Nat) : d ≠ .ref n := by
  rintro rfl
  simp [vOk] at h
theorem vOk_mem : ∀ {xs : List D} {d : D}, vOks xs = true → d ∈ xs → vOk d = true
  | x :: xs, d, h, hd => by
    rw [vOks, Bool.and_eq_true] at h
    rcases List.mem_cons.mp hd with rfl | hd
    · exact h.1
    · exact vOk_mem h.2 hd
section
variable {S : Sto} {q : D → Sto → Prop}
theorem bls_map {α : Type} (f : α → Bool) (xs : List α) : blsD (xs.map fun x => .bl (f x)) = some (xs.map f) := by
  have := blsD_bls f xs
  exact this
theorem ty_vOk {d : D} (h : vOk d = true) : ∃ t, tyD S d = some t ∧ (t = "str" ↔ ∃ x, d = .str x) ∧ (t = "tuple" ↔ ∃ xs, d = .tup xs) := ty_some d (noref h)
theorem are_ints_ok (d : D) (h : vOk d = true) : Wp (m_are_integers [d]) S q = q (.bl (intsB d)) S := by
  refine Wp.eqn ?_
  unfold m_are_integers b_are_integers
  cases d with
  | ref n => exact absurd rfl (noref h n)
  | tup xs =>
    simp [isTy, wipeD]
    rw [show xs = xs.map id by simp]
    rw [wp_lcE id (fun _ => true) (fun d => .bl (isI d)) xs trivial fun d hd => by
      simp [lN, setAll, is_integer_ok d (noref (vOk_mem h hd))]]
    simp [allD, onBls, rdlD, bls_map, intsB]
  | scr ns => simp [vOk] at h
  | _ => simp [isTy, intsB]
theorem tail_sl (ns : List Int) : slD S (.tup (ns.map .int)) (some 1) none = some (.tup (ns.tail.map .int)) := by
  show some (D.tup (Nt.cutD (ns.map .int) (some ((1 : Nat) : Int)) none)) = _
  rw [cut_fromA]
  simp
theorem pairs_int (ns ms : List Int) : pairs2 (ns.map .int) (ms.map .int) = (ns.zip ms).map fun p => .tup [.int p.1, .int p.2] := pairs2_two D.int D.int ns ms
theorem are_rising_ok (d : D) (h : vOk d = true) : Wp (m_are_rising [d]) S q = q (.bl (risD d)) S := by
  refine Wp.eqn ?_
  unfold m_are_rising b_are_rising
  simp [are_ints_ok d h]
  cases hi : intsB d with
  | false => simp [risD_no hi]
  | true =>
    obtain ⟨ns, rfl⟩ := intsB_yes hi
    simp [tail_sl, wipeD, -List.map_tail]
    rw [pairs_int]
    rw [wp_lcE (fun p : Int × Int => .tup [.int p.1, .int p.2]) (fun _ => true) (fun p => .bl (decide (p.1 < p.2))) (ns.zip ns.tail) trivial fun p _ => by simp [lT, lCs, lN, lNl, setAll]]
    simp [allD, onBls, rdlD, bls_map, risD_ints, risB]
theorem ne_nil_ints (ns : List Int) : neD S (.tup (ns.map .int)) (.tup []) = some (.bl (!ns.isEmpty)) := by
  have p : pln (.tup (ns.map .int)) = true := by unfold pln; exact plns_map fun _ _ => rfl
  have d : dep (.tup (ns.map .int)) ≤ 64 := by
    unfold dep
    have := deps_map (f := D.int) (xs := ns) (n := 0) fun _ _ => Nat.le_refl _
    omega
  rw [show @neD = @eqP not from rfl, eqP_pln p rfl d (by decide)]
  cases ns <;> simp
theorem last_int (ns : List Int) (h : ns ≠ []) : L2.atI (ns.map D.int) (-1) = some (D.int (ns.getLastD 0)) := by
  obtain ⟨l, z, rfl⟩ : ∃ l z, ns = l ++ [z] := ⟨ns.dropLast, ns.getLast h, (List.dropLast_concat_getLast h).symm⟩
  rw [List.map_append]
  show L2.atI (l.map D.int ++ [D.int z]) (-1) = _
  rw [atI_last]
  simp
theorem are_zones_ok (d : D) (h : vOk d = true) : Wp (m_are_zones [d]) S q = q (.bl (zonB d)) S := by
  refine Wp.eqn ?_
  unfold m_are_zones b_are_zones
  simp [are_rising_ok d h]
  cases hi : intsB d with
  | false => simp [risD_no hi, zonB_no hi]
  | true =>
    obtain ⟨ns, rfl⟩ := intsB_yes hi
    rw [risD_ints, zonB_ints]
    cases hr : risB ns with
    | false => simp [goodZ, hr]
    | true =>
      cases ns with
      | nil => 
        have := ne_nil_ints (S := S) []
        simp at this
        simp [this, goodZ, hr]
      | cons n ns =>
        have e1 := ne_nil_ints (S := S) (n :: ns)
        have e2 := last_int (n :: ns) (by simp)
        simp at e1 e2
        have e3 : L2.atI (D.int n :: List.map D.int ns) 0 = some (.int n) := by simp [atI]
        simp [e1, e2, e3, goodZ, hr]
        by_cases hn : 1 ≤ n
        · simp [hn, e2]
        · simp [hn]
theorem law_are_ints_ok (d : D) (h : vOk d = true) : Wp (m__law_are_ints [d]) S q = q (.bl (intsB d)) S := by
  refine Wp.eqn ?_
  unfold m__law_are_ints b__law_are_ints
  have h0 : (0 : Nat) ≤ sizeLine := by decide
  cases d with
  | ref n => exact absurd rfl (noref h n)
  | tup xs =>
    simp [isTy, wipeD]
    rw [show xs = xs.map id by simp]
    rw [wp_lcE id (fun d => !isI d) (fun _ => .int 1) xs trivial fun d hd => by
      simp [lN, setAll, law_is_int_ok d (noref (vOk_mem h hd))]]
    have e := ones_nil (S := S) (f := id) (xs.filter fun d => !isI d)
    simp at e
    simp [e, intsB, h0]
    cases hx : xs.all isI <;> simp_all
  | scr ns => simp [vOk] at h
  | _ => simp [isTy, intsB]
theorem law_rises_ok (ns : List Int) : Wp (m__law_rises [.tup (ns.map .int)]) S q = q (.bl (risB ns)) S := by
  refine Wp.eqn ?_
  unfold m__law_rises b__law_rises
  have h0 : (0 : Nat) ≤ sizeLine := by decide
  simp [tail_sl, wipeD, -List.map_tail]
  rw [pairs_int]
  rw [wp_lcE (fun p : Int × Int => .tup [.int p.1, .int p.2]) (fun p => decide (p.1 ≥ p.2)) (fun _ => .int 1) (ns.zip ns.tail) trivial fun p _ => by simp [lT, lCs, lN, lNl, setAll]]
  have e := ones_nil (S := S) (f := id) ((ns.zip ns.tail).filter fun p => decide (p.1 ≥ p.2))
  simp at e
  simp [e, h0, risB]
  rw [Bool.eq_iff_iff]
  simp only [decide_eq_true_eq, List.filter_eq_nil_iff, List.all_eq_true]
  exact ⟨fun h p hp => by have := h p hp; simpa using this, fun h p hp => by have := h p hp; simpa using this⟩
theorem law_are_zones_ok (d : D) (h : vOk d = true) : Wp (m__law_are_zones [d]) S q = q (.bl (zonB d)) S := by
  refine Wp.eqn ?_
  unfold m__law_are_zones b__law_are_zones
  simp [law_are_ints_ok d h]
  cases hi : intsB d with
  | false => simp [zonB_no hi]
  | true =>
    obtain ⟨ns, rfl⟩ := intsB_yes hi
    rw [zonB_ints]
    cases ns with
    | nil =>
      have := ne_nil_ints (S := S) []
      simp at this
      simp [this, goodZ]
    | cons n ns =>
      have e1 := ne_nil_ints (S := S) (n :: ns)
      have e2 := last_int (n :: ns) (by simp)
      have e5 : ∀ {q : D → Sto → Prop}, Wp (m__law_rises [.tup (D.int n :: ns.map .int)]) S q = q (.bl (risB (n :: ns))) S := fun {q} => law_rises_ok (n :: ns)
      simp at e1 e2
      have e3 : L2.atI (D.int n :: List.map D.int ns) 0 = some (.int n) := by simp [atI]
      simp [e1, e5]
      cases hr : risB (n :: ns) with
      | false => simp [goodZ, hr]
      | true =>
        simp [e1, e2, e3, goodZ, hr]
        by_cases hn : 1 ≤ n
        · simp [hn, e2]
        · simp [hn]
end
end K75

namespace K75
open PySem PySem.Spec L2 Nt Nx
open PyProof.Rows hiding St
def priB : D → Bool
  | .int i => decide (0 ≤ i) && decide (i ≤ 1000000)
  | _ => false
def rideB : D → Bool
  | .tup [z, p] => zonB z && priB p
  | _ => false
def lineB : D → Bool
  | .tup [.str w] => decide (w = "day")
  | .tup [.str w, c] => decide (w = "count") && isI c
  | .tup [.str w, r, c] => decide (w = "ride") && (rideB r && isI c)
  | _ => false
def recB : D → Bool
  | .tup ls => ls.all lineB
  | _ => false
def faultX : D → D
  | .tup [z, p] => if zonB z = true then (if priB p = true then .non else .str "price") else .str "zones"
  | _ => .str "form"
section
variable {S : Sto} {q : D → Sto → Prop}
theorem within_ok (d : D) (h : vOk d = true) : Wp (m_is_within [d, .int 0, .int 1000000]) S q = q (.bl (priB d)) S := by
  refine Wp.eqn ?_
  unfold m_is_within b_is_within
  simp [is_integer_ok d (noref h)]
  cases d with
  | int i => 
    simp [isI, priB]
    by_cases h0 : 0 ≤ i <;> simp [h0]
  | _ => simp [isI, priB]
theorem row_ok (d : D) (h : vOk d = true) : Wp (m_row_fault [d, .int 1000000]) S q = q (faultX d) S := by
  refine Wp.eqn ?_
  unfold m_row_fault b_row_fault
  cases d with
  | ref n => exact absurd rfl (noref h n)
  | scr ns => simp [vOk] at h
  | tup xs =>
    match xs, h with
    | [], h => simp [isTy, faultX]
    | [a], h => simp [isTy, faultX]
    | [z, p], h =>
      have hz : vOk z = true := vOk_mem h (by simp)
      have hp : vOk p = true := vOk_mem h (by simp)
      simp [isTy, atI, are_zones_ok z hz, within_ok p hp, faultX]
      cases zonB z <;> cases priB p <;> simp
    | a :: b :: c :: r, h =>
      have : ¬ ((r.length : Int) + 1 + 1 + 1 = 2) := by omega
      simp [isTy, faultX, this]
  | _ => simp [isTy, faultX]
theorem fault_non (d : D) : (faultX d = .non) = (rideB d = true) := by
  unfold faultX rideB
  split
  · rename_i z p
    cases zonB z <;> cases priB p <;> simp
  · simp
theorem fault_is (d : D) : isD S (faultX d) .non = some (.bl (rideB d)) := by
  unfold faultX rideB
  split
  · rename_i z p
    cases zonB z <;> cases priB p <;> rfl
  · rfl
theorem law_is_ride_ok (d : D) (h : vOk d = true) : Wp (m__law_is_ride [d]) S q = q (.bl (rideB d)) S := by
  refine Wp.eqn ?_
  unfold m__law_is_ride b__law_is_ride
  cases d with
  | ref n => exact absurd rfl (noref h n)
  | scr ns => simp [vOk] at h
  | tup xs =>
    match xs, h with
    | [], h => simp [isTy, rideB]
    | [a], h => simp [isTy, rideB]
    | [z, p], h =>
      have hz : vOk z = true := vOk_mem h (by simp)
      have hp : vOk p = true := vOk_mem h (by simp)
      simp [isTy, atI, law_are_zones_ok z hz, law_is_int_ok p (noref hp), rideB]
      cases zonB z with
      | false => simp
      | true =>
        simp
        cases p with
        | int i =>
          simp [isI, priB]
          by_cases h0 : 0 ≤ i <;> simp [h0]
        | _ => simp [isI, priB]
    | a :: b :: c :: r, h =>
      have : ¬ ((r.length : Int) + 1 + 1 + 1 = 2) := by omega
      simp [isTy, rideB, this]
  | _ => simp [isTy, rideB]
theorem eq_w {a : Str} (h : PyData.strOk a = true) (b : String) : eqP id S (.str a) (.str (Str.ofString b)) = some (.bl (decide (a = Str.ofString b))) := by
  rw [eqP_str h (strOk_of b)]
  rfl
theorem lineB_no {a : D} {r : List D} (h : ¬ ∃ x, a = .str x) : lineB (.tup (a :: r)) = false := by
  unfold lineB
  split
  · rename_i e; cases e; exact absurd ⟨_, rfl⟩ h
  · rename_i e; cases e; exact absurd ⟨_, rfl⟩ h
  · rename_i e; cases e; exact absurd ⟨_, rfl⟩ h
  · rfl
theorem is_line_ok (d : D) (h : vOk d = true) : Wp (m_is_line [d]) S q = q (.bl (lineB d)) S := by
  refine Wp.eqn ?_
  unfold m_is_line b_is_line
  cases d with
  | ref n => exact absurd rfl (noref h n)
  | scr ns => simp [vOk] at h
  | tup xs =>
    match xs, h with
    | [], h => simp [isTy, lineB]
    | a :: r, h =>
      have ha : vOk a = true := vOk_mem h (by simp)
      obtain ⟨t, ht, hs, _⟩ := ty_vOk (S := S) ha
      by_cases hstr : ∃ x, a = .str x
      · obtain ⟨x, rfl⟩ := hstr
        have hx : PyData.strOk x = true := ha
        match r, h with
        | [], h => 
          simp [isTy, atI, lineB, eq_w hx]
        | [c], h =>
          have hc : vOk c = true := vOk_mem h (by simp)
          simp [isTy, atI, lineB, eq_w hx, is_integer_ok c (noref hc)]
          cases isI c <;> simp
        | [r, c], h =>
          have hr : vOk r = true := vOk_mem h (by simp)
          have hc : vOk c = true := vOk_mem h (by simp)
          simp [isTy, atI, lineB, eq_w hx, is_integer_ok c (noref hc), row_ok r hr, fault_is]
          cases isI c <;> by_cases hxr : x = Str.ofString "ride" <;> simp [hxr]
        | b :: c :: e :: r, h =>
          simp [isTy, lineB]
          intro h1 h2
          omega
      · simp [isTy, atI]
        have hne : t ≠ "str" := fun e => hstr (hs.mp e)
        have hl : lineB (.tup (a :: r)) = false := lineB_no hstr
        simp [ht, hne, hl]
  | _ => simp [isTy, lineB]
theorem all_map {α : Type} (f : α → Bool) (xs : List α) : (xs.map f).all id = xs.all f := by
  rw [List.all_map]; rfl
/-- a record that is told -/
theorem checked_yes (d : D) (h : vOk d = true) (hr : recB d = true) (hl : ∀ xs, d = .tup xs → xs.length ≤ 200) : Wp (m_checked_record [d]) S q = q d S := by
  refine Wp.eqn ?_
  unfold m_checked_record b_checked_record
  cases d with
  | tup xs =>
    have hlen : ¬ (200 : Int) < xs.length := by have := hl xs rfl; omega
    simp [isTy, wipeD, hlen]
    rw [show xs = xs.map id by simp]
    rw [wp_lcE id (fun _ => true) (fun d => .bl (lineB d)) xs trivial fun d hd => by
      simp [lN, setAll, is_line_ok d (vOk_mem h hd)]]
    have hr : xs.all lineB = true := hr
    simp [allD, onBls, rdlD, bls_map, all_map, hr]
  | _ => simp [recB] at hr
theorem checked_many (xs : List D) (hl : 200 < xs.length) : Xp (m_checked_record [.tup xs]) S "BadLog" [("fault", .str "many")] (fun S' => S' = S) := by
  unfold m_checked_record b_checked_record
  have hlen : (200 : Int) < xs.length := by omega
  refine xp_fnB rfl (xs_sSq (xs_sIf ?_))
  simp [isTy, hlen]
  refine xs_sRs ?_
  simp [flX]
theorem checked_form (d : D) (h : vOk d = true) (hr : recB d = false) (hl : ∀ xs, d = .tup xs → xs.length ≤ 200) : Xp (m_checked_record [d]) S "BadLog" [("fault", .str "form")] (fun S' => S' = S) := by
  unfold m_checked_record b_checked_record
  refine xp_fnB rfl (xs_sSq2 ?_)
  cases d with
  | tup xs =>
    have hlen : ¬ (200 : Int) < xs.length := by have := hl xs rfl; omega
    have hr : xs.all lineB = false := hr
    simp [isTy, hlen]
    refine xs_sSq (xs_sIf ?_)
    simp [isTy, wipeD]
    rw [show xs = xs.map id by simp]
    rw [wp_lcE id (fun _ => true) (fun d => .bl (lineB d)) xs trivial fun d hd => by
      simp [lN, setAll, is_line_ok d (vOk_mem h hd)]]
    simp [allD, onBls, rdlD, bls_map, all_map, hr]
    refine xs_sRs ?_
    simp [flX]
  | ref n => exact absurd rfl (noref h n)
  | scr ns => simp [vOk] at h
  | _ =>
    simp [isTy]
    refine xs_sSq (xs_sIf ?_)
    simp [isTy]
    refine xs_sRs ?_
    simp [flX]
theorem heard_yes (d : D) (h : vOk d = true) (hr : recB d = true) (hl : ∀ xs, d = .tup xs → xs.length ≤ 200) : Wp (m__law_heard [d]) S q = q (.tup [.str "told", d]) S := by
  refine Wp.eqn ?_
  unfold m__law_heard b__law_heard
  have h2 : (2 : Nat) ≤ sizeLine := by decide
  rw [wp_fnB, if_pos (show [d].length = 1 from rfl)]
  refine ws_try_ok ?_
  simp [checked_yes d h hr hl, h2]
theorem heard_x (d : D) (w : Str) (h : Xp (m_checked_record [d]) S "BadLog" [("fault", .str w)] (fun S' => S' = S)) : Wp (m__law_heard [d]) S fun r S' => r = .tup [.str "bad", .str w] ∧ S' = S := by
  unfold m__law_heard b__law_heard
  rw [wp_fnB, if_pos (show [d].length = 1 from rfl)]
  refine ws_try_x (fs := [("fault", .str w)]) (ds := [.str "bad", .str w]) (xs_sRt (xp_eTup (xp_aCons2 ?_))) (by simp [sitsD, sitD])
  simp
  refine xp_aCons (xp_eCall ?_)
  simp
  refine Xp.mono h ?_
  intro S' hU
  exact hU
end
end K75

namespace K75
open PySem PySem.Spec L2 Nt Nx
open PyProof.Rows hiding St
section
variable {S : Sto} {q : D → Sto → Prop}
theorem eqT_nil (xs : List D) : eqT S (.tup xs) (.tup []) = some (.bl xs.isEmpty) := by
  unfold Nx.eqT
  cases xs <;> rfl
theorem eqT_one (a b : Str) (xs : List D) : eqT S (.tup (.str a :: xs)) (.tup [.str b]) = some (.bl (a == b && xs.isEmpty)) := rfl
noncomputable def rfBody : SM := sSq (sIf (tIf' (tNo (tV (eIs ["tuple"] (eV 1)))) tTt (tIf' (tB' (eO eqT (eV 1) (eTup (aNil)))) tTt (tNo (tV (eIs ["str"] (eO ixD (eV 1) (eC (.int 0)))))))) (sRt (eC (.bl false))) (sNx)) (sSq (sIf (tB' (eO eqD (eO ixD (eV 1) (eC (.int 0))) (eC (.str "ride")))) (sSet 2 (eAnd (eO eqD (eB lenD (aCons (eV 1) (aNil))) (eC (.int 3))) (eAnd (eCall 1 m__law_is_ride (aCons (eO ixD (eV 1) (eC (.int 1))) (aNil))) (eCall 1 m__law_is_int (aCons (eO ixD (eV 1) (eC (.int 2))) (aNil)))))) (sIf (tB' (eO eqD (eO ixD (eV 1) (eC (.int 0))) (eC (.str "count")))) (sSet 2 (eAnd (eO eqD (eB lenD (aCons (eV 1) (aNil))) (eC (.int 2))) (eCall 1 m__law_is_int (aCons (eO ixD (eV 1) (eC (.int 1))) (aNil))))) (sSet 2 (eO eqT (eV 1) (eTup (aCons (eC (.str "day")) (aNil))))))) (sIf (tNo (tV (eV 2))) (sRt (eC (.bl false))) (sNx)))
theorem rf_eq : b__law_record_form = sSq (sIf (tNo (tV (eIs ["tuple"] (eV 0)))) (sRt (eC (.bl false))) (sNx)) (sSq (sFor (iSeq (eV 0)) (gL (lN 1)) rfBody) (sRt (eC (.bl true)))) := rfl
theorem rf_body (d x : D) (o : Option D) (h : vOk x = true) : Ws rfBody [some d, some x, o] S fun f S' => S' = S ∧ if lineB x = true then ∃ o, f = .nx [some d, some x, o] else f = .rt (.bl false) := by
  unfold rfBody
  have h1 : (1 : Nat) ≤ sizeLine := by decide
  have h0 : (0 : Nat) ≤ sizeLine := by decide
  have dr : ¬ (("day" : Str) = "ride") := by decide +kernel
  have dc : ¬ (("day" : Str) = "count") := by decide +kernel
  have cr : ¬ (("count" : Str) = "ride") := by decide +kernel
  have cd : ¬ (("count" : Str) = "day") := by decide +kernel
  have rc : ¬ (("ride" : Str) = "count") := by decide +kernel
  have rd : ¬ (("ride" : Str) = "day") := by decide +kernel
  cases x with
  | ref n => exact absurd rfl (noref h n)
  | scr ns => simp [vOk] at h
  | tup xs =>
    match xs, h with
    | [], h => simp [isTy, eqT_nil, h0, lineB]
    | a :: r, h =>
      have ha : vOk a = true := vOk_mem h (by simp)
      by_cases hstr : ∃ x, a = .str x
      · obtain ⟨w, rfl⟩ := hstr
        have hx : PyData.strOk w = true := ha
        by_cases hr : w = "ride"
        · subst hr
          match r, h with
          | [], h => simp [isTy, atI, lineB, eq_w hx, eqT_nil, eqT_one, h0, h1, rd]
          | [c], h => simp [isTy, atI, lineB, eq_w hx, eqT_nil, eqT_one, h0, h1, rc]
          | [r, c], h =>
            have hr : vOk r = true := vOk_mem h (by simp)
            have hc : vOk c = true := vOk_mem h (by simp)
            simp [isTy, atI, lineB, eq_w hx, eqT_nil, eqT_one, h0, h1, law_is_ride_ok r hr, law_is_int_ok c (noref hc)]
            cases rideB r <;> cases isI c <;> simp
          | b :: c :: e :: r, h =>
            have : ¬ ((r.length : Int) + 1 + 1 + 1 + 1 = 3) := by omega
            simp [isTy, atI, lineB, eq_w hx, eqT_nil, eqT_one, h0, h1, this]
        · by_cases hc : w = "count"
          · subst hc
            match r, h with
            | [], h => simp [isTy, atI, lineB, eq_w hx, eqT_nil, eqT_one, h0, h1, hr, cd]
            | [c], h =>
              have hc : vOk c = true := vOk_mem h (by simp)
              simp [isTy, atI, lineB, eq_w hx, eqT_nil, eqT_one, h0, h1, hr, law_is_int_ok c (noref hc)]
            | [r, c], h => simp [isTy, atI, lineB, eq_w hx, eqT_nil, eqT_one, h0, h1, hr]
            | b :: c :: e :: r, h =>
              have : ¬ ((r.length : Int) + 1 + 1 + 1 + 1 = 2) := by omega
              simp [isTy, atI, lineB, eq_w hx, eqT_nil, eqT_one, h0, h1, hr, this]
          · match r, h with
            | [], h =>
              simp [isTy, atI, lineB, eq_w hx, eqT_nil, eqT_one, h0, h1, hr, hc]
            | [c], h => simp [isTy, atI, lineB, eq_w hx, eqT_nil, eqT_one, h0, h1, hr, hc]
            | [r, c], h => simp [isTy, atI, lineB, eq_w hx, eqT_nil, eqT_one, h0, h1, hr, hc]
            | b :: c :: e :: r, h => simp [isTy, atI, lineB, eq_w hx, eqT_nil, eqT_one, h0, h1, hr, hc]
      · obtain ⟨t, ht, hs, _⟩ := ty_vOk (S := S) ha
        have hne : t ≠ "str" := fun e => hstr (hs.mp e)
        have hl : lineB (.tup (a :: r)) = false := lineB_no hstr
        simp [isTy, atI, eqT_nil, h0, ht, hne, hl]
  | _ => simp [isTy, lineB]
theorem form_ok (d : D) (h : vOk d = true) : Wp (m__law_record_form [d]) S q = q (.bl (recB d)) S := by
  refine Wp.eqn ?_
  unfold m__law_record_form
  rw [rf_eq]
  cases d with
  | ref n => exact absurd rfl (noref h n)
  | scr ns => simp [vOk] at h
  | tup xs =>
    simp [isTy]
    rw [show xs = xs.map id by simp]
    refine ws_loop id xs (fun i ρ S' => (∃ a o, ρ = [some (.tup (xs.map id)), a, o]) ∧ (∀ x ∈ xs.take i, lineB x = true) ∧ S' = S) ⟨⟨_, _, rfl⟩, by simp, rfl⟩ (fun _ _ _ _ => trivial) ?_ ?_
    · rintro i x ρ S1 hx ⟨⟨a, o, rfl⟩, hall, rfl⟩
      have hm := List.mem_of_getElem? hx
      have hv := vOk_mem h hm
      simp [gL, lN, setAll]
      refine Ws.mono (rf_body (S := S1) (.tup xs) x o hv) ?_
      rintro f S2 ⟨rfl, hf⟩
      cases hl : lineB x with
      | true =>
        rw [hl, if_pos rfl] at hf
        obtain ⟨o, rfl⟩ := hf
        refine ⟨⟨_, _, by simp; exact ⟨rfl, rfl⟩⟩, fun y hy => ?_, rfl⟩
        rw [take_succ' hx, List.mem_append] at hy
        rcases hy with hy | hy
        · exact hall y hy
        · rw [List.mem_singleton.mp hy]; exact hl
      | false =>
        rw [hl, if_neg (by decide)] at hf
        subst hf
        have : recB (.tup xs) = false := by
          show xs.all lineB = false
          rw [List.all_eq_false]
          exact ⟨x, hm, by simp [hl]⟩
        simp [this]
    · rintro ρ S1 ⟨⟨a, o, rfl⟩, hall, rfl⟩
      rw [List.take_length] at hall
      have : recB (.tup xs) = true := by
        show xs.all lineB = true
        rw [List.all_eq_true]
        exact hall
      simp [this]
  | _ => simp [isTy, recB]
end
end K75

namespace K75
open PySem PySem.Spec L2 Nt Nx
open PyProof.Rows hiding St
noncomputable def bnC : Nv → M Bool := tIf' (tB' (eO eqD (eV 2) (eC (.int 0)))) tTt (tIf' (tNo (tV (eIs ["tuple"] (eV 1)))) tTt (tIf' (tB' (eO eqD (eV 1) (eTup (aNil)))) tTt (tB' (eO eqD (eCall 2 m__law_take (aCons (eV 0) (aCons (eC (.int 4)) (aNil)))) (eC (.int 0))))))
noncomputable def bnA1 : SM := sIf (tIf' (tV (eIs ["tuple"] (eV 1))) (tIf' (tB' (eO neD (eV 1) (eTup (aNil)))) (tB' (eO eqD (eCall 2 m__law_take (aCons (eV 0) (aCons (eC (.int 2)) (aNil)))) (eC (.int 0)))) tFf) tFf) (sSq (sSet 3 (eCall 2 m__law_take (aCons (eV 0) (aCons (eO addD (eB lenD (aCons (eV 1) (aNil))) (eC (.int 1))) (aNil))))) (sSq (sSet 4 (eFrz (lim (aCons (eO addD (eSl (eV 1) (pNo) (pSo (eV 3))) (eSl (eV 1) (pSo (eO addD (eV 3) (eC (.int 1)))) (pNo))) (aCons (eO addD (eV 1) (eSl (eV 1) (pNo) (pSo (eC (.int 1))))) (aCons (eRv (eV 1)) (aCons (eFrz (nB listD (aCons (eV 1) (aNil)))) (aNil)))))))) (sRt (eCall 2 m__law_some (aCons (eV 0) (aCons (eO addD (eV 4) (eFrz (lim (aCons (eO addD (eO addD (eSl (eV 1) (pNo) (pSo (eV 3))) (eTup (aCons (eCall 1 m__law_odd (aCons (eV 0) (aNil))) (aNil)))) (eSl (eV 1) (pSo (eV 3)) (pNo))) (aNil))))) (aNil))))))) (sNx)
noncomputable def bnA2 : SM := sIf (tIf' (tV (eIs ["int"] (eV 1))) (tNo (tV (eIs ["bool"] (eV 1)))) tFf) (sRt (eCall 2 m__law_some (aCons (eV 0) (aCons (eFrz (lim (aCons (eO addD (eV 1) (eC (.int 1))) (aCons (eO subD (eV 1) (eC (.int 1))) (aCons (eNg (eC (.int 1))) (aCons (eO eqD (eV 1) (eC (.int 1))) (aCons (eB strD (aCons (eV 1) (aNil))) (aCons (eC (.int 8)) (aCons (eC (.int 9)) (aCons (eC (.int 0)) (aCons (eC (.int 100)) (aCons (eC (.int 101)) (aNil))))))))))))) (aNil))))) (sNx)
noncomputable def bnA3 : SM := sIf (tV (eIs ["str"] (eV 1))) (sRt (eCall 2 m__law_some (aCons (eV 0) (aCons (eFrz (lim (aCons (eO addD (eV 1) (eC (.str "s"))) (aCons (eSl (eV 1) (pSo (eC (.int 1))) (pNo)) (aCons (eUp (eV 1)) (aCons (eC (.str "")) (aCons (eC (.str "a")) (aCons (eC (.str "zz")) (aCons (eC (.str "in")) (aCons (eO addD (eV 1) (eC (.str "abcdefgh"))) (aNil))))))))))) (aNil))))) (sNx)
noncomputable def bnA4 : SM := sRt (eCall 1 m__law_odd (aCons (eV 0) (aNil)))
noncomputable def bnA : SM := sSq bnA1 (sSq bnA2 (sSq bnA3 bnA4))
noncomputable def bnB (mr : List D → M D) : SM := sSq (sSet 3 (eCall 2 m__law_take (aCons (eV 0) (aCons (eB lenD (aCons (eV 1) (aNil))) (aNil))))) (sRt (eO addD (eO addD (eSl (eV 1) (pNo) (pSo (eV 3))) (eTup (aCons (eCall 3 mr (aCons (eV 0) (aCons (eO ixD (eV 1) (eV 3)) (aCons (eO subD (eV 2) (eC (.int 1))) (aNil))))) (aNil)))) (eSl (eV 1) (pSo (eO addD (eV 3) (eC (.int 1)))) (pNo))))
theorem bn_eq (mr : List D → M D) : b__law_bent mr = sSq (sIf bnC bnA sNx) (bnB mr) := rfl

def outB (W P : Nat) (d : D) : Bool := vOk d && (!hasD d || noLD d) && decide (wD d ≤ W) && decide (dD d ≤ P)
def w3B (x : Str) : Bool := decide (x = "ride") || decide (x = "count") || decide (x = "day")
mutual
def cIn : D → Bool
  | .int i => decide (-2000 ≤ i) && decide (i ≤ 2000)
  | .str x => w3B x
  | .tup ds => cIns ds && decide (ds.length ≤ 300)
  | _ => false
def cIns : List D → Bool
  | [] => true
  | d :: ds => cIn d && cIns ds
end
theorem cIn_mem : ∀ {xs : List D} {d : D}, cIns xs = true → d ∈ xs → cIn d = true
  | x :: xs, d, h, hd => by
    rw [cIns, Bool.and_eq_true] at h
    rcases List.mem_cons.mp hd with rfl | hd
    · exact h.1
    · exact cIn_mem h.2 hd
theorem w3_ok {x : Str} (h : w3B x = true) : PyData.strOk x = true := by
  unfold w3B at h
  simp only [Bool.or_eq_true, decide_eq_true_eq] at h
  rcases h with (rfl | rfl) | rfl <;> decide +kernel
structure Cl (d : D) : Prop where
  v : vOk d = true
  h : hasD d = false
  n : noLD d = true
  p : pln d = true
structure Cls (ds : List D) : Prop where
  v : vOks ds = true
  h : hasDs ds = false
  n : noLDs ds = true
  p : plns ds = true
mutual
theorem cl_of : ∀ d : D, cIn d = true → Cl d
  | .int i, h => by
    simp [cIn] at h
    refine ⟨?_, rfl, rfl, rfl⟩
    simp [vOk]
    omega
  | .str x, h => ⟨w3_ok h, rfl, rfl, w3_ok h⟩
  | .tup ds, h => by
    rw [cIn, Bool.and_eq_true] at h
    have c := cls_of ds h.1
    exact ⟨c.v, c.h, c.n, c.p⟩
  | .non, h => by simp [cIn] at h
  | .bl _, h => by simp [cIn] at h
  | .lst _, h => by simp [cIn] at h
  | .dct _, h => by simp [cIn] at h
  | .scr _, h => by simp [cIn] at h
  | .ref _, h => by simp [cIn] at h
theorem cls_of : ∀ ds : List D, cIns ds = true → Cls ds
  | [], _ => ⟨rfl, rfl, rfl, rfl⟩
  | d :: ds, h => by
    rw [cIns, Bool.and_eq_true] at h
    have a := cl_of d h.1
    have c := cls_of ds h.2
    exact ⟨by rw [vOks, a.v, c.v]; rfl, by rw [hasDs, a.h, c.h]; rfl, by rw [noLDs, a.n, c.n]; rfl, by rw [plns, a.p, c.p]; rfl⟩
end
mutual
theorem dep_le : ∀ d : D, dep d ≤ dD d
  | .tup ds => Nat.succ_le_succ (deps_le ds)
  | .lst ds => Nat.succ_le_succ (deps_le ds)
  | .dct _ => by simp [dep, dD]
  | .non => by simp [dep, dD]
  | .bl _ => by simp [dep, dD]
  | .int _ => by simp [dep, dD]
  | .str _ => by simp [dep, dD]
  | .scr _ => by simp [dep, dD]
  | .ref _ => by simp [dep, dD]
theorem deps_le : ∀ ds : List D, deps ds ≤ dDs ds
  | [] => Nat.le_refl _
  | d :: ds => by
    have a := dep_le d
    have b := deps_le ds
    simp only [deps, dDs]
    omega
end
theorem vOks_app : ∀ (a b : List D), vOks (a ++ b) = (vOks a && vOks b)
  | [], b => by simp [vOks]
  | x :: a, b => by rw [List.cons_append, vOks, vOks, vOks_app a b, Bool.and_assoc]
theorem hasDs_app : ∀ (a b : List D), hasDs (a ++ b) = (hasDs a || hasDs b)
  | [], b => by simp [hasDs]
  | x :: a, b => by rw [List.cons_append, hasDs, hasDs, hasDs_app a b, Bool.or_assoc]
theorem noLDs_app : ∀ (a b : List D), noLDs (a ++ b) = (noLDs a && noLDs b)
  | [], b => by simp [noLDs]
  | x :: a, b => by rw [List.cons_append, noLDs, noLDs, noLDs_app a b, Bool.and_assoc]
theorem wDs_app : ∀ (a b : List D), wDs (a ++ b) = wDs a + wDs b
  | [], b => by simp [wDs]
  | x :: a, b => by rw [List.cons_append, wDs, wDs, wDs_app a b]; omega
theorem dDs_app : ∀ (a b : List D), dDs (a ++ b) = max (dDs a) (dDs b)
  | [], b => by simp [dDs]
  | x :: a, b => by rw [List.cons_append, dDs, dDs, dDs_app a b]; omega
theorem cIns_app : ∀ (a b : List D), cIns (a ++ b) = (cIns a && cIns b)
  | [], b => by simp [cIns]
  | x :: a, b => by rw [List.cons_append, cIns, cIns, cIns_app a b, Bool.and_assoc]
theorem out_mono {W P W' P' : Nat} {d : D} (h : outB W P d = true) (h1 : W ≤ W') (h2 : P ≤ P') : outB W' P' d = true := by
  unfold outB at h ⊢
  simp only [Bool.and_eq_true, decide_eq_true_eq] at h ⊢
  exact ⟨⟨h.1.1, Nat.le_trans h.1.2 h1⟩, Nat.le_trans h.2 h2⟩
theorem odd_out : oddL.all (outB 500 3) = true := by decide +kernel
/-- a clean list, alone -/
theorem out_cl {xs : List D} {W P : Nat} (h : cIns xs = true) (hw : wDs xs ≤ W) (hd : dDs xs + 1 ≤ P) : outB W P (.tup xs) = true ∧ outB W P (.lst xs) = true := by
  have c := cls_of xs h
  unfold outB
  simp only [Bool.and_eq_true, decide_eq_true_eq, Bool.or_eq_true, Bool.not_eq_true']
  exact ⟨⟨⟨⟨c.v, .inl c.h⟩, hw⟩, hd⟩, ⟨⟨⟨c.v, .inl c.h⟩, hw⟩, hd⟩⟩
/-- one thing among clean ones -/
theorem out_in {xs ys : List D} {d : D} {W P W' P' : Nat} (h : cIns xs = true) (h2 : cIns ys = true) (hd : outB W P d = true) (hw : wDs xs + W + 1 + wDs ys ≤ W') (hp : max (dDs xs) (max P (dDs ys)) + 1 ≤ P') : outB W' P' (.tup (xs ++ [d] ++ ys)) = true := by
  have a := cls_of xs h
  have c := cls_of ys h2
  unfold outB at hd ⊢
  simp only [Bool.and_eq_true, decide_eq_true_eq, Bool.or_eq_true, Bool.not_eq_true'] at hd ⊢
  obtain ⟨⟨⟨d1, d2⟩, d3⟩, d4⟩ := hd
  refine ⟨⟨⟨?_, ?_⟩, ?_⟩, ?_⟩
  · show vOks _ = true
    rw [vOks_app, vOks_app, a.v, c.v]; simp [vOks, d1]
  · show hasDs _ = false ∨ noLDs _ = true
    rw [hasDs_app, hasDs_app, noLDs_app, noLDs_app, a.h, c.h, a.n, c.n]
    simpa [hasDs, noLDs] using d2
  · show wDs _ ≤ _
    rw [wDs_app, wDs_app]; simp only [wDs]; omega
  · show dDs _ + 1 ≤ _
    rw [dDs_app, dDs_app]; simp only [dDs]; omega
section
variable {S : Sto} {q : D → Sto → Prop} {b : Nat}
theorem str_small {i : Int} (h : -100000 ≤ i ∧ i ≤ 100000) : strD S [.int i] = some (.str (toString i)) := by
  unfold strD
  dsimp only
  rw [if_pos]
  have h1 : i.natAbs < 2 ^ 20 := by omega
  by_cases h0 : i.natAbs = 0
  · rw [h0]; decide
  · have h2 : i.natAbs.log2 < 20 := (Nat.log2_lt h0).mpr h1
    omega
theorem slT_to {xs : List D} {k : Nat} : slD S (.tup xs) none (some (k : Int)) = some (.tup (xs.take k)) := by
  unfold slD
  dsimp only
  rw [cut_toA]
theorem slT_from {xs : List D} {k : Nat} : slD S (.tup xs) (some (k : Int)) none = some (.tup (xs.drop k)) := by
  unfold slD
  dsimp only
  rw [cut_fromA]
theorem slT_from1 {xs : List D} {k : Nat} : slD S (.tup xs) (some ((k : Int) + 1)) none = some (.tup (xs.drop (k + 1))) := by
  have := slT_from (S := S) (xs := xs) (k := k + 1)
  rw [← this]
  simp
theorem add_tup {xs ys : List D} (h : xs.length + ys.length ≤ 1000) : addD S (.tup xs) (.tup ys) = some (.tup (xs ++ ys)) := by
  unfold addD
  dsimp only
  rw [if_pos (by rw [sizeLine_eq]; omega)]
theorem wp_eSl_from {a : Str} {k : Nat} (h : a.length ≤ 100) : slD S (.str a) (some (k : Int)) none = some (.str (L2.cutS a (some (k : Int)) none)) := by
  unfold slD
  dsimp only
  rw [if_pos (by rw [sizeLine_eq]; omega)]
theorem add_str {a c : Str} (h : a.length + c.length ≤ 100) : addD S (.str a) (.str c) = some (.str (a ++ c)) := by
  unfold addD
  dsimp only
  rw [if_pos (by rw [sizeLine_eq]; omega)]
theorem up_str {a : Str} (h : a.length ≤ 100) : upD (.str a) = some (.str (Txt.upper a)) := by
  unfold upD
  dsimp only
  rw [if_pos (by omega)]
theorem ne_tup {xs : List D} (h : cIns xs = true) (hd : dDs xs ≤ 20) (f : Bool → Bool) (S : Sto) : eqP f S (.tup xs) (.tup []) = some (.bl (f xs.isEmpty)) := by
  have c := cls_of xs h
  have d := deps_le xs
  rw [eqP_pln (show pln (.tup xs) = true from c.p) rfl (show dep (.tup xs) ≤ 64 by unfold dep; omega) (by decide)]
  cases xs <;> simp
theorem odd_res (h : Bag S b) (W P : Nat) (hw : 500 ≤ W) (hp : 3 ≤ P) : Wp (m__law_odd [.ref b]) S fun e S' => outB W P e = true ∧ Dr S S' b := by
  refine Wp.mono (odd_ok h) ?_
  rintro d S' ⟨hd, hD⟩
  exact ⟨out_mono (List.all_eq_true.mp odd_out d hd) hw hp, hD⟩
theorem bnA_int (h : Bag S b) {i : Int} (hi : cIn (.int i) = true) (n : Int) (x3 x4 : Option D) : Ws bnA [some (.ref b), some (.int i), some (.int n), x3, x4] S fun f S' => ∃ e, f = .rt e ∧ outB 600 3 e = true ∧ Dr S S' b := by
  unfold bnA bnA1 bnA2
  rw [some_eq]
  simp [cIn] at hi
  have h10 : (10 : Nat) ≤ sizeLine := by decide
  simp [isTy, str_small (S := S) (i := i) (by omega), h10]
  refine Wp.mono (some_dr h (by simp) (by simp)) ?_
  rintro d S' ⟨h1, h2, _⟩
  refine ⟨?_, h2⟩
  simp at h1
  have oi : ∀ j : Int, j.natAbs ≤ 3000 → outB 600 3 (.int j) = true := fun j hj => by
    unfold outB
    simp [vOk, hasD, wD, dD]
    omega
  rcases h1 with rfl | rfl | rfl | rfl | rfl | rfl | rfl | rfl | rfl | rfl
  · exact oi _ (by omega)
  · exact oi _ (by omega)
  · exact oi _ (by omega)
  · rfl
  · have := int_text_length_le10 (a := i) (k := 4) (by decide) (by omega)
    unfold outB
    have e : (Str.ofString i.repr).cps.size ≤ 600 := by
      show (Str.ofString (toString i)).length ≤ 600
      rw [PySem.ofString_length]
      omega
    simp only [vOk, hasD, wD, dD, strOk_of, Bool.not_false, Bool.true_or, Bool.and_true, Bool.true_and]
    simp [e]
  · exact oi _ (by omega)
  · exact oi _ (by omega)
  · exact oi _ (by omega)
  · exact oi _ (by omega)
  · exact oi _ (by omega)
theorem bnA_str (h : Bag S b) {w : Str} (hw : cIn (.str w) = true) (n : Int) (x3 x4 : Option D) : Ws bnA [some (.ref b), some (.str w), some (.int n), x3, x4] S fun f S' => ∃ e, f = .rt e ∧ outB 300 3 e = true ∧ Dr S S' b := by
  unfold bnA bnA1 bnA2 bnA3
  rw [some_eq]
  have h8 : (8 : Nat) ≤ sizeLine := by decide
  have hw : w3B w = true := hw
  have hl : w.length ≤ 10 := by
    unfold w3B at hw
    simp only [Bool.or_eq_true, decide_eq_true_eq] at hw
    rcases hw with (rfl | rfl) | rfl <;> decide +kernel
  have s1 : addD S (.str w) (.str "s") = some (.str (w ++ "s")) := add_str (by have : ("s" : Str).length = 1 := by decide +kernel
                                                                               omega)
  have s2 : addD S (.str w) (.str "abcdefgh") = some (.str (w ++ "abcdefgh")) := add_str (by have : ("abcdefgh" : Str).length = 8 := by decide +kernel
                                                                                             omega)
  have s3 : slD S (.str w) (some 1) none = some (.str (L2.cutS w (some 1) none)) := wp_eSl_from (k := 1) (by omega)
  have s4 : upD (.str w) = some (.str (Txt.upper w)) := up_str (by omega)
  simp [isTy, h8, s1, s2, s3, s4]
  refine Wp.mono (some_dr h (by simp) (by simp)) ?_
  rintro d S' ⟨h1, h2, _⟩
  refine ⟨?_, h2⟩
  simp at h1
  unfold w3B at hw
  simp only [Bool.or_eq_true, decide_eq_true_eq] at hw
  rcases hw with (rfl | rfl) | rfl <;> rcases h1 with rfl | rfl | rfl | rfl | rfl | rfl | rfl | rfl <;> decide +kernel
theorem bnA_nil (h : Bag S b) (n : Int) (x3 x4 : Option D) : Ws bnA [some (.ref b), some (.tup []), some (.int n), x3, x4] S fun f S' => ∃ e, f = .rt e ∧ outB 500 3 e = true ∧ Dr S S' b := by
  unfold bnA bnA1 bnA2 bnA3 bnA4
  have := ne_tup (xs := []) rfl (by decide) not S
  simp [isTy, show @neD = @eqP not from rfl, this]
  refine Wp.mono (odd_res h 500 3 (Nat.le_refl _) (Nat.le_refl _)) ?_
  rintro d S' ⟨h1, h2⟩
  exact ⟨h1, h2⟩
theorem dDs_take (xs : List D) (k : Nat) : dDs (xs.take k) ≤ dDs xs := by
  have := dDs_app (xs.take k) (xs.drop k)
  rw [List.take_append_drop] at this
  omega
theorem dDs_drop (xs : List D) (k : Nat) : dDs (xs.drop k) ≤ dDs xs := by
  have := dDs_app (xs.take k) (xs.drop k)
  rw [List.take_append_drop] at this
  omega
theorem wDs_cut (xs : List D) (k : Nat) : wDs (xs.take k) + wDs (xs.drop k) = wDs xs := by
  have := wDs_app (xs.take k) (xs.drop k)
  rw [List.take_append_drop] at this
  omega
theorem cIns_take {xs : List D} (k : Nat) (h : cIns xs = true) : cIns (xs.take k) = true ∧ cIns (xs.drop k) = true := by
  have := cIns_app (xs.take k) (xs.drop k)
  rw [List.take_append_drop, h] at this
  rw [← Bool.and_eq_true, ← this]
theorem wDs_drop1 (xs : List D) (k : Nat) : wDs (xs.drop (k + 1)) ≤ wDs (xs.drop k) := by
  have := wDs_cut (xs.drop k) 1
  rw [List.drop_drop] at this
  omega
theorem wDs_rev (xs : List D) : wDs xs.reverse = wDs xs := by
  induction xs with
  | nil => rfl
  | cons x xs ih => rw [List.reverse_cons, wDs_app, ih]; simp only [wDs]; omega
theorem dDs_rev (xs : List D) : dDs xs.reverse = dDs xs := by
  induction xs with
  | nil => rfl
  | cons x xs ih => rw [List.reverse_cons, dDs_app, ih]; simp only [dDs]; omega
theorem cIns_rev {xs : List D} (h : cIns xs = true) : cIns xs.reverse = true := by
  induction xs with
  | nil => rfl
  | cons x xs ih =>
    rw [cIns, Bool.and_eq_true] at h
    rw [List.reverse_cons, cIns_app, ih h.2]
    simp [cIns, h.1]
theorem bnA_tup (h : Bag S b) {xs : List D} (hx : cIns xs = true) (hl : xs.length ≤ 300) (hd : dDs xs ≤ 20) (hne : xs ≠ []) (n : Int) (x3 x4 : Option D) : Ws bnA [some (.ref b), some (.tup xs), some (.int n), x3, x4] S fun f S' => ∃ e, f = .rt e ∧ outB (2 * wDs xs + 501) (dDs xs + 4) e = true ∧ Dr S S' b := by
  unfold bnA bnA1 bnA2 bnA3 bnA4
  rw [take_eq, some_eq]
  have h4 : (4 : Nat) ≤ sizeLine := by decide
  have h1' : (1 : Nat) ≤ sizeLine := by decide
  have he : xs.isEmpty = false := by cases xs <;> simp_all
  have nt : ∀ S, neD S (.tup xs) (.tup []) = some (.bl true) := fun S => by rw [show @neD = @eqP not from rfl, ne_tup hx hd, he]; rfl
  have l1 : ∀ S, slD S (.tup xs) none (some 1) = some (.tup (xs.take 1)) := fun S => slT_to (k := 1)
  have l2 : ∀ S, listD S [.tup xs] = some xs := fun _ => rfl
  have l3 : revD (.tup xs) = some (.tup xs.reverse) := rfl
  have l4 : ∀ S (k : Nat), addD S (.tup (xs.take k)) (.tup (xs.drop (k + 1))) = some (.tup (xs.take k ++ xs.drop (k + 1))) := fun S k => add_tup (by simp; omega)
  have l5 : ∀ S, addD S (.tup xs) (.tup (xs.take 1)) = some (.tup (xs ++ xs.take 1)) := fun S => add_tup (by simp; omega)
  have l6 : ∀ S (k : Nat) d, addD S (.tup (xs.take k)) (.tup [d]) = some (.tup (xs.take k ++ [d])) := fun S k d => add_tup (by simp; omega)
  have l7 : ∀ S (k : Nat) d, addD S (.tup (xs.take k ++ [d])) (.tup (xs.drop k)) = some (.tup (xs.take k ++ [d] ++ xs.drop k)) := fun S k d => add_tup (by simp; omega)
  simp [isTy, nt]
  refine Wp.mono (take_dr h (m := 2) (by omega) (by omega)) ?_
  rintro d S2 ⟨v2, rfl, _, hD2, _⟩
  simp
  by_cases hv2 : v2 = 0
  · simp [hv2]
    refine Wp.mono (take_dr hD2.bag (m := (xs.length : Int) + 1) (by omega) (by omega)) ?_
    rintro d S3 ⟨k, rfl, hk, hD3, _⟩
    simp [slT_to, slT_from, slT_from1, l1, l2, l3, l4, l5, h4]
    refine Wp.mono (odd_res hD3.bag 500 3 (Nat.le_refl _) (Nat.le_refl _)) ?_
    rintro d S4 ⟨hd4, hD4⟩
    simp [l6, l7, h1']
    rw [add_lst (by simp [sizeLine_eq]), So_some]
    refine Wp.mono (some_dr hD4.bag (by simp) (by simp)) ?_
    rintro e S5 ⟨he5, hD5, _⟩
    refine ⟨?_, hD2.trans (hD3.trans (hD4.trans hD5))⟩
    have ct := cIns_take k hx
    have c1 := cIns_take 1 hx
    have ck := cIns_take (k + 1) hx
    have w1 := wDs_cut xs k
    have w2 := wDs_drop1 xs k
    have w3 := wDs_cut xs 1
    have d1 := dDs_take xs k
    have d2 := dDs_drop xs k
    have d3 := dDs_drop xs (k + 1)
    have d4 := dDs_take xs 1
    simp at he5
    rcases he5 with rfl | rfl | rfl | rfl | rfl
    · exact (out_cl (by rw [cIns_app, ct.1, ck.2]; rfl) (by rw [wDs_app]; omega) (by rw [dDs_app]; omega)).1
    · exact (out_cl (by rw [cIns_app, hx, c1.1]; rfl) (by rw [wDs_app]; omega) (by rw [dDs_app]; omega)).1
    · exact (out_cl (cIns_rev hx) (by rw [wDs_rev]; omega) (by rw [dDs_rev]; omega)).1
    · exact (out_cl hx (by omega) (by omega)).2
    · have := out_in (W' := 2 * wDs xs + 501) (P' := dDs xs + 4) ct.1 ct.2 hd4 (by omega) (by omega)
      simpa using this
  · simp [hv2]
    refine Wp.mono (odd_res hD2.bag (2 * wDs xs + 501) (dDs xs + 4) (by omega) (by omega)) ?_
    rintro d S' ⟨h1, h2⟩
    exact ⟨h1, hD2.trans h2⟩
theorem bent_base (h : Bag S b) (d : D) (hc : cIn d = true) (hd : dD d ≤ 20) (n : Int) : Ws bnA [some (.ref b), some d, some (.int n), none, none] S fun f S' => ∃ e, f = .rt e ∧ outB (2 * wD d + 501) (dD d + 3) e = true ∧ Dr S S' b := by
  have weak : ∀ {W P : Nat}, W ≤ 2 * wD d + 501 → P ≤ dD d + 3 → (Ws bnA [some (.ref b), some d, some (.int n), none, none] S fun f S' => ∃ e, f = .rt e ∧ outB W P e = true ∧ Dr S S' b) → Ws bnA [some (.ref b), some d, some (.int n), none, none] S fun f S' => ∃ e, f = .rt e ∧ outB (2 * wD d + 501) (dD d + 3) e = true ∧ Dr S S' b := fun h1 h2 h3 => by
    refine Ws.mono h3 ?_
    rintro f S' ⟨e, rfl, h4, h5⟩
    exact ⟨e, rfl, out_mono h4 h1 h2, h5⟩
  cases d with
  | int i => exact weak (by simp [wD]) (by simp) (bnA_int h hc n none none)
  | str w => exact weak (by omega) (by simp) (bnA_str h hc n none none)
  | tup xs =>
    rw [cIn, Bool.and_eq_true, decide_eq_true_eq] at hc
    by_cases hne : xs = []
    · subst hne
      exact weak (by omega) (by simp [dD]) (bnA_nil h n none none)
    · exact weak (by simp [wD]) (by simp [dD]) (bnA_tup h hc.1 hc.2 (by simp only [dD] at hd; omega) hne n none none)
  | _ => simp [cIn] at hc
/-- what is bent -/
theorem bentN : ∀ (n : Nat) (d : D) {S : Sto}, Bag S b → cIn d = true → dD d ≤ 20 → Wp (mf__law_bent (n + 1) [.ref b, d, .int (n : Nat)]) S fun e S' => outB (2 * wD d + 501) (dD d + 3) e = true ∧ Dr S S' b := by
  intro n
  induction n with
  | zero =>
    intro d S h hc hd
    show Wp (fnB 5 3 (b__law_bent (mf__law_bent 0)) [.ref b, d, .int 0]) S _
    rw [bn_eq]
    unfold bnC
    simp
    refine Ws.mono (bent_base h d hc hd 0) ?_
    rintro f S' ⟨e, rfl, h1, h2⟩
    simp
    exact ⟨h1, h2⟩
  | succ n ih =>
    intro d S h hc hd
    show Wp (fnB 5 3 (b__law_bent (mf__law_bent (n + 1))) [.ref b, d, .int ((n + 1 : Nat) : Int)]) S _
    rw [bn_eq]
    unfold bnC
    rw [take_eq]
    have hn : ¬ ((n : Int) + 1 = 0) := by omega
    have base : Ws bnA [some (.ref b), some d, some (.int ((n : Int) + 1)), none, none] S fun f S' => ∃ e, f = .rt e ∧ outB (2 * wD d + 501) (dD d + 3) e = true ∧ Dr S S' b := bent_base h d hc hd _
    cases d with
    | int i =>
      simp [hn, isTy]
      refine Ws.mono base ?_
      rintro f S' ⟨e, rfl, h1, h2⟩
      simp
      exact ⟨h1, h2⟩
    | str i =>
      simp [hn, isTy]
      refine Ws.mono base ?_
      rintro f S' ⟨e, rfl, h1, h2⟩
      simp
      exact ⟨h1, h2⟩
    | tup xs =>
      have hcc := hc
      rw [cIn, Bool.and_eq_true, decide_eq_true_eq] at hc
      obtain ⟨hx, hl⟩ := hc
      have hds : dDs xs ≤ 20 := by simp only [dD] at hd; omega
      by_cases hne : xs = []
      · subst hne
        have e0 := ne_tup (xs := []) rfl (by decide) id S
        simp [hn, isTy, e0]
        refine Ws.mono base ?_
        rintro f S' ⟨e, rfl, h1, h2⟩
        simp
        exact ⟨h1, h2⟩
      · have he : xs.isEmpty = false := by cases xs <;> simp_all
        have et : eqP id S (.tup xs) (.tup []) = some (.bl false) := by rw [ne_tup hx hds, he]; rfl
        simp [hn, isTy, et]
        refine Wp.mono (take_dr h (m := 4) (by omega) (by omega)) ?_
        rintro d S1 ⟨v, rfl, _, hD1, _⟩
        have base1 : Ws bnA [some (.ref b), some (.tup xs), some (.int ((n : Int) + 1)), none, none] S1 fun f S' => ∃ e, f = .rt e ∧ outB (2 * wD (.tup xs) + 501) (dD (.tup xs) + 3) e = true ∧ Dr S1 S' b := bent_base hD1.bag _ hcc hd _
        simp
        by_cases hv : v = 0
        · simp [hv]
          refine Ws.mono base1 ?_
          rintro f S' ⟨e, rfl, h1, h2⟩
          simp
          exact ⟨h1, hD1.trans h2⟩
        · simp [hv]
          unfold bnB
          rw [take_eq]
          have hlp : 0 < xs.length := List.length_pos_iff.mpr hne
          simp
          refine Wp.mono (take_dr hD1.bag (m := (xs.length : Int)) (by omega) (by omega)) ?_
          rintro d S2 ⟨k, rfl, hk, hD2, _⟩
          have hk : k < xs.length := by omega
          have hxk : xs[k]? = some xs[k] := List.getElem?_eq_getElem hk
          have hm : xs[k] ∈ xs := List.getElem_mem hk
          generalize xs[k] = y at hxk hm
          have hy := cIn_mem hx hm
          have split : xs = xs.take k ++ [y] ++ xs.drop (k + 1) := by
            have := List.take_append_drop k xs
            rw [List.drop_eq_getElem_cons hk] at this
            have e : xs[k] = y := by
              have := List.getElem?_eq_getElem hk
              rw [hxk] at this
              exact (Option.some.inj this).symm
            rw [e] at this
            simpa using this.symm
          have hdy : dDs xs = max (dDs (xs.take k)) (max (dD y) (dDs (xs.drop (k + 1)))) := by
            conv => lhs; rw [split]
            rw [dDs_app, dDs_app]
            simp only [dDs]
            omega
          have hwy : wDs xs = wDs (xs.take k) + (wD y + 1) + wDs (xs.drop (k + 1)) := by
            conv => lhs; rw [split]
            rw [wDs_app, wDs_app]
            simp only [wDs]
          have l1 : ∀ S, addD S (.tup (xs.take k)) (.tup []) = some (.tup (xs.take k)) := fun S => by rw [add_tup (by simp; omega)]; simp
          have l6 : ∀ S d, addD S (.tup (xs.take k)) (.tup [d]) = some (.tup (xs.take k ++ [d])) := fun S d => add_tup (by simp; omega)
          have l8 : ∀ S d, addD S (.tup (xs.take k ++ [d])) (.tup (xs.drop (k + 1))) = some (.tup (xs.take k ++ [d] ++ xs.drop (k + 1))) := fun S d => add_tup (by simp; omega)
          have h1' : (1 : Nat) ≤ sizeLine := by decide
          simp [slT_to, slT_from1, Nt.atI_nat hxk]
          refine Wp.mono (ih y hD2.bag hy (by omega)) ?_
          rintro e S3 ⟨he3, hD3⟩
          simp [l6, l8, h1']
          have ct := cIns_take k hx
          have ck := cIns_take (k + 1) hx
          have := out_in (W' := 2 * wD (.tup xs) + 501) (P' := dD (.tup xs) + 3) ct.1 ck.2 he3 (by simp only [wD]; omega) (by simp only [dD]; omega)
          exact ⟨by simpa using this, hD1.trans (hD2.trans hD3)⟩
    | _ => simp [cIn] at hc
end
end K75

namespace K75
open PySem PySem.Spec L2 Nt Nx
open PyProof.Rows hiding St
/-! ### what is drawn is in its form; sizes -/
theorem asc_len : ∀ (zs : List Int) (lo : Int), zs.Pairwise (· < ·) → (∀ z ∈ zs, lo ≤ z ∧ z ≤ 8) → lo ≤ 9 → (zs.length : Int) ≤ 9 - lo
  | [], lo, _, _, h => by simp; omega
  | z :: zs, lo, hp, hm, h => by
    rw [List.pairwise_cons] at hp
    have hz := hm z (by simp)
    have := asc_len zs (z + 1) hp.2 (fun y hy => ⟨by have := hp.1 y hy; omega, (hm y (by simp [hy])).2⟩) (by omega)
    simp only [List.length_cons]
    omega
theorem asc_ris : ∀ (zs : List Int), zs.Pairwise (· < ·) → risB zs = true
  | [], _ => rfl
  | [_], _ => rfl
  | a :: b :: zs, h => by
    rw [List.pairwise_cons] at h
    have := asc_ris (b :: zs) h.2
    unfold risB at this ⊢
    simp only [List.tail_cons, List.zip_cons_cons, List.all_cons] at this ⊢
    rw [Bool.and_eq_true]
    exact ⟨by simpa using h.1 b (by simp), this⟩
theorem GoodZ.len {zs : List Int} (h : GoodZ zs) : zs.length ≤ 8 := by
  have := asc_len zs 1 h.2.1 h.2.2 (by omega)
  omega
theorem GoodZ.ok {zs : List Int} (h : GoodZ zs) : goodZ zs = true := by
  obtain ⟨h1, h2, h3⟩ := h
  unfold goodZ
  rw [asc_ris zs h2]
  have e1 : zs.isEmpty = false := by cases zs <;> simp_all
  have e2 : 1 ≤ zs.headD 0 := by
    cases zs with
    | nil => exact absurd rfl h1
    | cons z zs => exact (h3 z (by simp)).1
  have e3 : zs.getLastD 0 ≤ 8 := by
    obtain ⟨l, z, rfl⟩ : ∃ l z, zs = l ++ [z] := ⟨zs.dropLast, zs.getLast h1, (List.dropLast_concat_getLast h1).symm⟩
    have := (h3 z (by simp)).2
    simpa using this
  rw [e1]
  simp only [e2, e3, decide_true, Bool.not_false, Bool.and_true]
theorem wDs_map {α : Type} {f : α → D} {n : Nat} : ∀ {xs : List α}, (∀ x ∈ xs, wD (f x) + 1 ≤ n) → wDs (xs.map f) ≤ n * xs.length
  | [], _ => by simp [wDs]
  | x :: xs, h => by
    have a := h x (by simp)
    have b := wDs_map (f := f) (n := n) (xs := xs) fun y hy => h y (by simp [hy])
    rw [List.map_cons, List.length_cons, Nat.mul_succ]
    simp only [wDs]
    omega
theorem dDs_map {α : Type} {f : α → D} {n : Nat} : ∀ {xs : List α}, (∀ x ∈ xs, dD (f x) ≤ n) → dDs (xs.map f) ≤ n
  | [], _ => by simp [dDs]
  | x :: xs, h => by
    have a := h x (by simp)
    have b := dDs_map (f := f) (n := n) (xs := xs) fun y hy => h y (by simp [hy])
    rw [List.map_cons]
    simp only [dDs]
    omega
theorem cIns_map {α : Type} {f : α → D} : ∀ {xs : List α}, (∀ x ∈ xs, cIn (f x) = true) → cIns (xs.map f) = true
  | [], _ => rfl
  | x :: xs, h => by
    rw [List.map_cons, cIns, h x (by simp), cIns_map (f := f) (xs := xs) fun y hy => h y (by simp [hy])]
    rfl
theorem eI_fact {zs : List Int} (h : GoodZ zs) : cIn (eI zs) = true ∧ wD (eI zs) ≤ 1208 ∧ dD (eI zs) ≤ 1 := by
  have hl := h.len
  refine ⟨?_, ?_, ?_⟩
  · unfold eI
    rw [cIn, Bool.and_eq_true, decide_eq_true_eq, List.length_map]
    refine ⟨cIns_map fun z hz => ?_, by omega⟩
    have := h.2.2 z hz
    simp [cIn]
    omega
  · show wDs (zs.map .int) ≤ _
    have := wDs_map (f := D.int) (n := 151) (xs := zs) fun z _ => by simp [wD]
    omega
  · show dDs (zs.map .int) + 1 ≤ 1
    have := dDs_map (f := D.int) (n := 0) (xs := zs) fun z _ => by simp [dD]
    omega
theorem eL_fact {x : Ln} (h : LineOk x) : cIn (eL x) = true ∧ wD (eL x) + 1 ≤ 1600 ∧ dD (eL x) ≤ 3 := by
  have c1 : ("day" : Str).cps.size = 3 := by decide +kernel
  have c2 : ("count" : Str).cps.size = 5 := by decide +kernel
  have c3 : ("ride" : Str).cps.size = 4 := by decide +kernel
  have k1 : cIn (.str "day") = true := by decide +kernel
  have k2 : cIn (.str "count") = true := by decide +kernel
  have k3 : cIn (.str "ride") = true := by decide +kernel
  cases x with
  | day => exact ⟨by decide +kernel, by decide +kernel, by decide +kernel⟩
  | count k =>
    obtain ⟨h1, h2⟩ := h
    refine ⟨?_, ?_, ?_⟩
    · simp [eL, cIn, cIns] at k2 ⊢
      exact ⟨k2, by omega, by omega⟩
    · simp [eL, wD, wDs, c2]
    · simp [eL, dD, dDs]
  | ride r c =>
    obtain ⟨h1, h2, h3, h4, _, hz⟩ := h
    obtain ⟨z1, z2, z3⟩ := eI_fact hz
    refine ⟨?_, ?_, ?_⟩
    · simp [eL, eR, cIn, cIns, z1] at k3 ⊢
      exact ⟨k3, ⟨by omega, by omega⟩, by omega, by omega⟩
    · simp [eL, eR, wD, wDs, c3]
      omega
    · simp [eL, eR, dD, dDs]
      omega
theorem rec_fact {ls : List Ln} (h : LsOk ls) (hl : ls.length ≤ 10) : cIns (ls.map eL) = true ∧ wDs (ls.map eL) ≤ 16000 ∧ dDs (ls.map eL) ≤ 3 := by
  refine ⟨cIns_map fun x hx => (eL_fact (h x hx)).1, ?_, dDs_map fun x hx => (eL_fact (h x hx)).2.2⟩
  have := wDs_map (f := eL) (n := 1600) (xs := ls) fun x hx => (eL_fact (h x hx)).2.1
  omega
theorem rOk_of {d : D} {W P : Nat} (h : outB W P d = true) (h1 : W ≤ 200000) (h2 : P ≤ 60) : rOk d = true := by
  unfold outB at h
  unfold rOk
  simp only [Bool.and_eq_true, decide_eq_true_eq] at h ⊢
  exact ⟨⟨⟨h.1.1.1, by omega⟩, h.1.1.2⟩, by omega⟩
mutual
theorem alk_v : ∀ d : D, vOk d = true → hasD d = false → alk d = true
  | .non, _, _ => rfl
  | .bl _, _, _ => rfl
  | .int _, _, _ => rfl
  | .str x, h, _ => h
  | .tup ds, h, h2 => alks_v ds h h2
  | .lst ds, h, h2 => alks_v ds h h2
  | .dct _, _, h2 => by simp [hasD] at h2
  | .scr _, h, _ => by simp [vOk] at h
  | .ref _, h, _ => by simp [vOk] at h
theorem alks_v : ∀ ds : List D, vOks ds = true → hasDs ds = false → alks ds = true
  | [], _, _ => rfl
  | d :: ds, h, h2 => by
    rw [vOks, Bool.and_eq_true] at h
    rw [hasDs, Bool.or_eq_false_iff] at h2
    rw [alks, alk_v d h.1 h2.1, alks_v ds h.2 h2.2]
    rfl
end
mutual
theorem nd_w : ∀ d : D, nd d ≤ wD d + 1
  | .tup ds => by have := nds_w ds; simp only [nd, wD]; omega
  | .lst ds => by have := nds_w ds; simp only [nd, wD]; omega
  | .non => by simp [nd]
  | .bl _ => by simp [nd]
  | .int _ => by simp [nd]
  | .str _ => by simp [nd]
  | .dct _ => by simp [nd]
  | .scr _ => by simp [nd]
  | .ref _ => by simp [nd]
theorem nds_w : ∀ ds : List D, nds ds ≤ wDs ds
  | [] => Nat.le_refl _
  | d :: ds => by
    have a := nd_w d
    have b := nds_w ds
    simp only [nds, wDs]
    omega
end
theorem hasDs_no : ∀ {xs : List D}, (∀ x ∈ xs, hasD x = false) → hasDs xs = false
  | [], _ => rfl
  | x :: xs, h => by rw [hasDs, h x (by simp), hasDs_no fun y hy => h y (by simp [hy])]; rfl
theorem zon_noD {d : D} (h : zonB d = true) : hasD d = false := by
  cases d with
  | tup xs =>
    have h : (xs.all isI && _) = true := h
    rw [Bool.and_eq_true] at h
    obtain ⟨ns, rfl⟩ := ints_of h.1
    show hasDs _ = false
    exact hasDs_no fun x hx => by obtain ⟨i, _, rfl⟩ := List.mem_map.mp hx; rfl
  | _ => simp [zonB] at h
theorem isI_noD {d : D} (h : isI d = true) : hasD d = false := by
  cases d with
  | int i => rfl
  | _ => simp [isI] at h
theorem ride_noD {d : D} (h : rideB d = true) : hasD d = false := by
  unfold rideB at h
  split at h
  · rename_i z p
    rw [Bool.and_eq_true] at h
    have hp : hasD p = false := by
      cases p with
      | int i => rfl
      | _ => simp [priB] at h
    simp [hasD, hasDs, zon_noD h.1, hp]
  · cases h
theorem line_noD {d : D} (h : lineB d = true) : hasD d = false := by
  unfold lineB at h
  split at h
  · rfl
  · rw [Bool.and_eq_true] at h
    simp [hasD, hasDs, isI_noD h.2]
  · rw [Bool.and_eq_true, Bool.and_eq_true] at h
    simp [hasD, hasDs, isI_noD h.2.2, ride_noD h.2.1]
  · cases h
theorem rec_noD {d : D} (h : recB d = true) : hasD d = false := by
  cases d with
  | tup xs => exact hasDs_no fun x hx => line_noD (List.all_eq_true.mp h x hx)
  | _ => simp [recB] at h
end K75

namespace K75
open PySem PySem.Spec L2 Nt Nx
open PyProof.Rows hiding St
/-! ### the law's loop, statement by statement -/
noncomputable def lw0 : SM := sSet 3 (eCall 4 m__law_passes (aCons (eV 1) (aCons (eC (.int 4)) (aCons (eC (.int 4)) (aCons (eC (.int 9)) (aNil))))))
noncomputable def lw1 : SM := sSet 4 (eCall 3 m__law_record (aCons (eV 1) (aCons (eV 3) (aCons (eC (.int 10)) (aNil)))))
noncomputable def lw2 : SM := sSet 5 (eFrz (lim (aCons (eTup (aCons (eC (.str "ride")) (aCons (eTup (aCons (eTup (aCons (eC (.int 1)) (aNil))) (aCons (eC (.int 5)) (aNil)))) (aNil)))) (aCons (eTup (aCons (eC (.str "ride")) (aCons (eTup (aCons (eTup (aCons (eC (.int 9)) (aNil))) (aCons (eC (.int 5)) (aNil)))) (aCons (eC (.int 5)) (aNil))))) (aCons (eTup (aCons (eC (.str "ride")) (aCons (eTup (aCons (eTup (aCons (eC (.int 1)) (aNil))) (aCons (eNg (eC (.int 1))) (aNil)))) (aCons (eC (.int 0)) (aNil))))) (aCons (eTup (aCons (eC (.str "count")) (aNil))) (aCons (eTup (aCons (eC (.str "count")) (aCons (eC (.bl true)) (aNil)))) (aCons (eTup (aCons (eC (.str "day")) (aCons (eC (.int 1)) (aNil)))) (aCons (eTup (aCons (eC (.str "nosuch")) (aNil))) (aCons (eTup (aNil)) (aCons (eFrz (lim (aCons (eC (.str "day")) (aNil)))) (aCons (eTup (aCons (eC (.str "ride")) (aCons (eTup (aCons (eTup (aCons (eC (.int 1)) (aNil))) (aCons (eC (.int 5)) (aNil)))) (aCons (eC (.str "5")) (aNil))))) (aNil)))))))))))))
noncomputable def lw3 : SM := sSet 6 (eFrz (lim (aCons (eV 4) (aCons (eFrz (nB listD (aCons (eV 4) (aNil)))) (aCons (eO addD (eV 4) (eTup (aCons (eCall 2 m__law_some (aCons (eV 1) (aCons (eV 5) (aNil)))) (aNil)))) (aCons (eO mulD (eTup (aCons (eTup (aCons (eC (.str "day")) (aNil))) (aNil))) (eC (.int 200))) (aCons (eO mulD (eTup (aCons (eTup (aCons (eC (.str "day")) (aNil))) (aNil))) (eC (.int 201))) (aCons (eO mulD (eTup (aCons (eC (.int 5)) (aNil))) (eC (.int 201))) (aCons (eCall 1 m__law_odd (aCons (eV 1) (aNil))) (aNil))))))))))
noncomputable def lb0 : SM := sSet 8 (eB reprD (aCons (eV 7) (aNil)))
noncomputable def lb1 : SM := sSet 9 (tIf' (tIf' (tV (eCall 1 m__law_record_form (aCons (eV 7) (aNil)))) (tB' (eO leD (eB lenD (aCons (eV 7) (aNil))) (eC (.int 200)))) tFf) (eTup (aCons (eC (.str "told")) (aCons (eV 7) (aNil)))) (eTup (aCons (eC (.str "bad")) (aCons (eC (.str "form")) (aNil)))))
noncomputable def lb2 : SM := sIf (tIf' (tV (eIs ["tuple"] (eV 7))) (tB' (eO gtD (eB lenD (aCons (eV 7) (aNil))) (eC (.int 200)))) tFf) (sSet 9 (eTup (aCons (eC (.str "bad")) (aCons (eC (.str "many")) (aNil))))) (sNx)
noncomputable def lb3 : SM := sIf (tIf' (tNo (tV (eCall 2 m__law_alike (aCons (eCall 1 m__law_heard (aCons (eV 7) (aNil))) (aCons (eV 9) (aNil)))))) tTt (tB' (eO neS (eB reprD (aCons (eV 7) (aNil))) (eV 8)))) (sRt (eC (.bl false))) (sNx)
noncomputable def lbody : SM := (sSq lb0 (sSq lb1 (sSq lb2 lb3)))
noncomputable def lw4 : SM := sFor (iSeq (eO addD (eV 6) (eFrz (eLc (iRg1 (eC (.int 4))) (lN 13) (tTt) (eCall 3 m__law_bent (aCons (eV 1) (aCons (eV 4) (aCons (eC (.int 4)) (aNil))))) [13])))) (gL (lN 7)) lbody
noncomputable def lw5 : SM := sSet 10 (eNew (lim (aNil)))
noncomputable def wb0 : SM := sSet 12 (eFrz (lim (aCons (eCall 3 m_left_at (aCons (eV 3) (aCons (eV 4) (aCons (eV 11) (aNil))))) (aCons (eCall 3 m_money_at (aCons (eV 3) (aCons (eV 4) (aCons (eV 11) (aNil))))) (aCons (eCall 3 m_word_at (aCons (eV 3) (aCons (eV 4) (aCons (eV 11) (aNil))))) (aNil))))))
noncomputable def wb1 : SM := sEx (eMt1 appendF (eV 10) (aCons (eCall 3 m__law_word (aCons (eV 3) (aCons (eV 4) (aCons (eV 11) (aNil))))) (aNil)))
noncomputable def wb2 : SM := sIf (tNo (tV (eCall 2 m__law_alike (aCons (eV 12) (aCons (eFrz (lim (aCons (eB tupleD (aCons (eCall 3 m__law_left (aCons (eV 3) (aCons (eV 4) (aCons (eV 11) (aNil))))) (aNil))) (aCons (eCall 2 m__law_money (aCons (eV 4) (aCons (eV 11) (aNil)))) (aCons (eO ixD (eV 10) (eNg (eC (.int 1)))) (aNil)))))) (aNil)))))) (sRt (eC (.bl false))) (sNx)
noncomputable def wbody : SM := (sSq wb0 (sSq wb1 wb2))
noncomputable def lw6 : SM := sFor (iRg1 (eB lenD (aCons (eV 4) (aNil)))) (gL (lN 11)) wbody
noncomputable def lw7 : SM := sIf (tB' (eO neD (eCall 2 m__law_is_printed (aCons (eV 3) (aCons (eV 4) (aNil)))) (eO eqD (eV 10) (eO mulD (eFrz (lim (aCons (eC .non) (aNil)))) (eB lenD (aCons (eV 4) (aNil))))))) (sRt (eC (.bl false))) (sNx)
noncomputable def lt7 : SM := lw7
noncomputable def lt6 : SM := sSq lw6 lt7
noncomputable def lt5 : SM := sSq lw5 lt6
noncomputable def lt4 : SM := sSq lw4 lt5
noncomputable def lt3 : SM := sSq lw3 lt4
noncomputable def lt2 : SM := sSq lw2 lt3
noncomputable def lt1 : SM := sSq lw1 lt2
noncomputable def lt0 : SM := sSq lw0 lt1

def strangeL : List D := [.tup [.str "ride", .tup [.tup [.int 1], .int 5]], .tup [.str "ride", .tup [.tup [.int 9], .int 5], .int 5], .tup [.str "ride", .tup [.tup [.int 1], .int (-1)], .int 0], .tup [.str "count"], .tup [.str "count", .bl true], .tup [.str "day", .int 1], .tup [.str "nosuch"], .tup [], .lst [.str "day"], .tup [.str "ride", .tup [.tup [.int 1], .int 5], .str "5"]]
theorem strange_out : strangeL.all (outB 700 4) = true := by decide +kernel
def daysL (n : Nat) : D := .tup (List.replicate n (D.tup [.str "day"]))
def fives : D := .tup (List.replicate 201 (D.int 5))
theorem days200 : outB 100000 4 (daysL 200) = true := by decide +kernel
theorem days201 : outB 100000 4 (daysL 201) = true := by decide +kernel
theorem fives_out : outB 100000 4 fives = true := by decide +kernel
section
variable {S : Sto} {ns : List Int} {x2 x3 x4 x5 x6 x7 x8 x9 x10 x11 x12 x13 : Option D} {caps : List Ride} {ls : List Ln} {t : D} {things : List D}
theorem LsOk.fair (h : LsOk ls) (i : Nat) (r : Ride) (c : Int) (e : ls[i]? = some (Ln.ride r c)) : 0 ≤ r.2 := (h _ (List.mem_of_getElem? e)).1
theorem st0 (h : Bag S 0) : Ws lw0 [some (.scr ns), some (.ref 0), x2, x3, x4, x5, x6, x7, x8, x9, x10, x11, x12, x13] S fun f S' => ∃ caps : List Ride, f = .nx [some (.scr ns), some (.ref 0), x2, some (eRs caps), x4, x5, x6, x7, x8, x9, x10, x11, x12, x13] ∧ caps.length ≤ 5 ∧ AllR 9 caps ∧ Bag S' 0 := by
  unfold lw0
  simp
  refine Wp.mono (passes_ok h (by omega) (by omega) (by omega) (by omega) (by omega) (by omega)) ?_
  rintro d S' ⟨⟨caps, rfl, h1, h2⟩, hD⟩
  exact ⟨caps, rfl, h1, h2, hD.bag⟩
theorem st1 (h : Bag S 0) (hc : caps.length ≤ 5) : Ws lw1 [some (.scr ns), some (.ref 0), x2, some (eRs caps), x4, x5, x6, x7, x8, x9, x10, x11, x12, x13] S fun f S' => ∃ ls : List Ln, f = .nx [some (.scr ns), some (.ref 0), x2, some (eRs caps), some (eLs ls), x5, x6, x7, x8, x9, x10, x11, x12, x13] ∧ ls.length ≤ 10 ∧ LsOk ls ∧ Bag S' 0 := by
  unfold lw1
  simp
  refine Wp.mono (record_ok h hc) ?_
  rintro d S' ⟨⟨ls, rfl, h1, h2⟩, hD⟩
  exact ⟨ls, rfl, h1, h2, hD.bag⟩
theorem st2 : Ws lw2 [some (.scr ns), some (.ref 0), x2, some (eRs caps), some (eLs ls), x5, x6, x7, x8, x9, x10, x11, x12, x13] S fun f S' => f = .nx [some (.scr ns), some (.ref 0), x2, some (eRs caps), some (eLs ls), some (.lst strangeL), x6, x7, x8, x9, x10, x11, x12, x13] ∧ S' = S := by
  unfold lw2
  have h0 : (0 : Nat) ≤ sizeLine := by decide
  have h1 : (1 : Nat) ≤ sizeLine := by decide
  have h2 : (2 : Nat) ≤ sizeLine := by decide
  have h3 : (3 : Nat) ≤ sizeLine := by decide
  have h10 : (10 : Nat) ≤ sizeLine := by decide
  simp [h0, h1, h2, h3, h10, strangeL]
/-- one thing -/
theorem seen (h : Bag S 0) {d due : D} (x : Str) (hh : Wp (m__law_heard [t]) S fun r S' => r = due ∧ S' = S) (hr : ∀ S, reprD S [t] = some (.str x)) (h1 : alk due = true) (h2 : nd due ≤ 1000000) : Ws lb3 [some (.scr ns), some (.ref 0), x2, some (eRs caps), some (eLs ls), some (.lst strangeL), some (.lst things), some t, some (.str x), some due, x10, x11, x12, x13] S fun f S' => f = .nx [some (.scr ns), some (.ref 0), x2, some (eRs caps), some (eLs ls), some (.lst strangeL), some (.lst things), some t, some (.str x), some due, x10, x11, x12, x13] ∧ Bag S' 0 := by
  unfold lb3
  rw [alike_eq]
  simp
  refine Wp.mono hh ?_
  rintro d S1 ⟨rfl, rfl⟩
  refine Wp.mono (alike_ok h1 h2) ?_
  rintro e S5 ⟨rfl, o, rfl⟩
  simp [hr, neS]
  exact Up.snoc.bag h
def dueT' (t : D) : D := match t with
  | .tup xs => if 200 < xs.length then .tup [.str "bad", .str "many"] else if recB t = true then .tup [.str "told", t] else .tup [.str "bad", .str "form"]
  | _ => .tup [.str "bad", .str "form"]
theorem told_ok : PyData.strOk ("told" : Str) = true := by decide +kernel
theorem body_one (h : Bag S 0) (ht : rOk t = true) : Ws lbody [some (.scr ns), some (.ref 0), x2, some (eRs caps), some (eLs ls), some (.lst strangeL), some (.lst things), some t, x8, x9, x10, x11, x12, x13] S fun f S' => ∃ y8 y9 : Option D, f = .nx [some (.scr ns), some (.ref 0), x2, some (eRs caps), some (eLs ls), some (.lst strangeL), some (.lst things), some t, y8, y9, x10, x11, x12, x13] ∧ Bag S' 0 := by
  have hv : vOk t = true := by
    unfold rOk at ht
    simp only [Bool.and_eq_true] at ht
    exact ht.1.1.1
  have hw : wD t ≤ 200000 := by
    unfold rOk at ht
    simp only [Bool.and_eq_true, decide_eq_true_eq] at ht
    exact ht.2
  have h2 : (2 : Nat) ≤ sizeLine := by decide
  obtain ⟨x, hr⟩ := repr_d ht
  unfold lbody
  rw [ws_sSq]
  have e0 : Ws lb0 [some (.scr ns), some (.ref 0), x2, some (eRs caps), some (eLs ls), some (.lst strangeL), some (.lst things), some t, x8, x9, x10, x11, x12, x13] S fun f S' => f = .nx [some (.scr ns), some (.ref 0), x2, some (eRs caps), some (eLs ls), some (.lst strangeL), some (.lst things), some t, some (.str x), x9, x10, x11, x12, x13] ∧ S' = S := by
    unfold lb0
    simp [hr]
  refine Ws.mono e0 ?_
  rintro f _ ⟨rfl, rfl⟩
  rw [Th_nx, ws_sSq]
  have bad1 : alk (.tup [.str "bad", .str "form"]) = true := by decide +kernel
  have bad2 : alk (.tup [.str "bad", .str "many"]) = true := by decide +kernel
  have fin : ∀ {due : D} {S : Sto}, Bag S 0 → (Wp (m__law_heard [t]) S fun r S' => r = due ∧ S' = S) → alk due = true → nd due ≤ 1000000 → Ws lb3 [some (.scr ns), some (.ref 0), x2, some (eRs caps), some (eLs ls), some (.lst strangeL), some (.lst things), some t, some (.str x), some due, x10, x11, x12, x13] S fun f S' => ∃ y8 y9 : Option D, f = .nx [some (.scr ns), some (.ref 0), x2, some (eRs caps), some (eLs ls), some (.lst strangeL), some (.lst things), some t, y8, y9, x10, x11, x12, x13] ∧ Bag S' 0 := by
    intro due S h hh h1 h2
    refine Ws.mono (seen (d := due) h x hh hr h1 h2) ?_
    rintro f S' ⟨rfl, hB⟩
    exact ⟨_, _, rfl, hB⟩
  by_cases hlong : ∃ xs, t = .tup xs ∧ 200 < xs.length
  · obtain ⟨xs, rfl, hl⟩ := hlong
    have hlen : ¬ ((xs.length : Int) ≤ 200) := by omega
    have hlen2 : (200 : Int) < xs.length := by omega
    have e1 : ∀ S : Sto, Ws lb1 [some (.scr ns), some (.ref 0), x2, some (eRs caps), some (eLs ls), some (.lst strangeL), some (.lst things), some (.tup xs), some (.str x), x9, x10, x11, x12, x13] S fun f S' => ∃ y9 : Option D, f = .nx [some (.scr ns), some (.ref 0), x2, some (eRs caps), some (eLs ls), some (.lst strangeL), some (.lst things), some (.tup xs), some (.str x), y9, x10, x11, x12, x13] ∧ S' = S := fun S => by
      unfold lb1
      simp [form_ok _ hv, hlen, h2]
    refine Ws.mono (e1 _) ?_
    rintro f _ ⟨y9, rfl, rfl⟩
    rw [Th_nx, ws_sSq]
    have e2 : ∀ S : Sto, Ws lb2 [some (.scr ns), some (.ref 0), x2, some (eRs caps), some (eLs ls), some (.lst strangeL), some (.lst things), some (.tup xs), some (.str x), y9, x10, x11, x12, x13] S fun f S' => f = .nx [some (.scr ns), some (.ref 0), x2, some (eRs caps), some (eLs ls), some (.lst strangeL), some (.lst things), some (.tup xs), some (.str x), some (.tup [.str "bad", .str "many"]), x10, x11, x12, x13] ∧ S' = S := fun S => by
      unfold lb2
      simp [isTy, hlen2, h2]
    refine Ws.mono (e2 _) ?_
    rintro f _ ⟨rfl, rfl⟩
    rw [Th_nx]
    exact fin h (heard_x _ "many" (checked_many xs hl)) bad2 (by simp [nd, nds])
  · have hsh : ∀ xs, t = .tup xs → xs.length ≤ 200 := fun xs e => by
      by_cases q : 200 < xs.length
      · exact absurd ⟨xs, e, q⟩ hlong
      · omega
    have e2 : ∀ (due : D) (S : Sto), Ws lb2 [some (.scr ns), some (.ref 0), x2, some (eRs caps), some (eLs ls), some (.lst strangeL), some (.lst things), some t, some (.str x), some due, x10, x11, x12, x13] S fun f S' => f = .nx [some (.scr ns), some (.ref 0), x2, some (eRs caps), some (eLs ls), some (.lst strangeL), some (.lst things), some t, some (.str x), some due, x10, x11, x12, x13] ∧ S' = S := fun due S => by
      unfold lb2
      cases t with
      | ref n => exact absurd rfl (noref hv n)
      | scr ns => simp [vOk] at hv
      | tup xs =>
        have hlen2 : ¬ (200 : Int) < xs.length := by have := hsh xs rfl; omega
        simp [isTy, hlen2]
      | _ => simp [isTy]
    cases hrec : recB t with
    | true =>
      have e1 : ∀ S : Sto, Ws lb1 [some (.scr ns), some (.ref 0), x2, some (eRs caps), some (eLs ls), some (.lst strangeL), some (.lst things), some t, some (.str x), x9, x10, x11, x12, x13] S fun f S' => f = .nx [some (.scr ns), some (.ref 0), x2, some (eRs caps), some (eLs ls), some (.lst strangeL), some (.lst things), some t, some (.str x), some (.tup [.str "told", t]), x10, x11, x12, x13] ∧ S' = S := fun S => by
        unfold lb1
        cases t with
        | tup xs =>
          have hlen : (xs.length : Int) ≤ 200 := by have := hsh xs rfl; omega
          simp [form_ok _ hv, hlen, h2, hrec]
        | _ => simp [recB] at hrec
      refine Ws.mono (e1 _) ?_
      rintro f _ ⟨rfl, rfl⟩
      rw [Th_nx, ws_sSq]
      refine Ws.mono (e2 _ _) ?_
      rintro f _ ⟨rfl, rfl⟩
      rw [Th_nx]
      refine fin h (by rw [heard_yes t hv hrec hsh]; exact ⟨rfl, rfl⟩) ?_ ?_
      · simp [alk, alks, told_ok, alk_v t hv (rec_noD hrec)]
      · have := nd_w t
        simp [nd, nds]
        omega
    | false =>
      have e1 : ∀ S : Sto, Ws lb1 [some (.scr ns), some (.ref 0), x2, some (eRs caps), some (eLs ls), some (.lst strangeL), some (.lst things), some t, some (.str x), x9, x10, x11, x12, x13] S fun f S' => f = .nx [some (.scr ns), some (.ref 0), x2, some (eRs caps), some (eLs ls), some (.lst strangeL), some (.lst things), some t, some (.str x), some (.tup [.str "bad", .str "form"]), x10, x11, x12, x13] ∧ S' = S := fun S => by
        unfold lb1
        simp [form_ok _ hv, h2, hrec]
      refine Ws.mono (e1 _) ?_
      rintro f _ ⟨rfl, rfl⟩
      rw [Th_nx, ws_sSq]
      refine Ws.mono (e2 _ _) ?_
      rintro f _ ⟨rfl, rfl⟩
      rw [Th_nx]
      exact fin h (heard_x _ "form" (checked_form t hv hrec hsh)) bad1 (by simp [nd, nds])
end
end K75

namespace K75
open PySem PySem.Spec L2 Nt Nx
open PyProof.Rows hiding St
section
variable {S : Sto} {ns : List Int} {x2 x3 x4 x5 x6 x7 x8 x9 x10 x11 x12 x13 : Option D} {caps : List Ride} {ls : List Ln} {t : D} {things : List D}
theorem mul_one (d : D) (k : Nat) (h1 : 2 ≤ k) (h2 : k ≤ 1000) : mulD S (.tup [d]) (.int (k : Nat)) = some (.tup (List.replicate k d)) := by
  unfold mulD
  dsimp only
  rw [if_pos ⟨by simp, by omega, by omega, by simp⟩]
  simp
theorem st3 (h : Bag S 0) (hl : ls.length ≤ 10) (hls : LsOk ls) : Ws lw3 [some (.scr ns), some (.ref 0), x2, some (eRs caps), some (eLs ls), some (.lst strangeL), x6, x7, x8, x9, x10, x11, x12, x13] S fun f S' => ∃ things : List D, f = .nx [some (.scr ns), some (.ref 0), x2, some (eRs caps), some (eLs ls), some (.lst strangeL), some (.lst things), x7, x8, x9, x10, x11, x12, x13] ∧ things.length ≤ 10 ∧ (∀ t ∈ things, rOk t = true) ∧ Bag S' 0 := by
  unfold lw3
  rw [some_eq]
  have h7 : (7 : Nat) ≤ sizeLine := by decide
  have h1 : (1 : Nat) ≤ sizeLine := by decide
  obtain ⟨c1, c2, c3⟩ := rec_fact hls hl
  have l1 : ∀ S, listD S [eLs ls] = some (ls.map eL) := fun _ => rfl
  have m1 : ∀ S, mulD S (.tup [.tup [.str "day"]]) (.int 200) = some (daysL 200) := fun S => mul_one _ 200 (by omega) (by omega)
  have m2 : ∀ S, mulD S (.tup [.tup [.str "day"]]) (.int 201) = some (daysL 201) := fun S => mul_one _ 201 (by omega) (by omega)
  have m3 : ∀ S, mulD S (.tup [.int 5]) (.int 201) = some fives := fun S => mul_one _ 201 (by omega) (by omega)
  have a1 : ∀ S d, addD S (eLs ls) (.tup [d]) = some (.tup (ls.map eL ++ [d])) := fun S d => by
    unfold eLs
    exact add_tup (by simp; omega)
  simp [l1, h1]
  refine Wp.mono (some_dr h (xs := strangeL) (by simp [strangeL]) (by simp [strangeL])) ?_
  rintro d S1 ⟨hd, hD1, _⟩
  simp [a1, m1, m2, m3]
  refine Wp.mono (odd_ok hD1.bag) ?_
  rintro o S2 ⟨ho, hD2⟩
  simp [h7]
  refine ⟨⟨rOk_of (out_cl c1 (W := 16000) (P := 4) c2 (by omega)).1 (by omega) (by omega), rOk_of (out_cl c1 (W := 16000) (P := 4) c2 (by omega)).2 (by omega) (by omega), ?_, rOk_of days200 (by omega) (by omega), rOk_of days201 (by omega) (by omega), rOk_of fives_out (by omega) (by omega), rOk_of (List.all_eq_true.mp odd_out o ho) (by omega) (by omega)⟩, hD2.bag⟩
  have := out_in (ys := []) (W' := 20000) (P' := 10) c1 rfl (List.all_eq_true.mp strange_out d hd) (by simp [wDs]; omega) (by simp [dDs]; omega)
  rw [List.append_nil] at this
  exact rOk_of this (by omega) (by omega)
theorem st4 (h : Bag S 0) (hl : ls.length ≤ 10) (hls : LsOk ls) (hth : things.length ≤ 10) (hok : ∀ t ∈ things, rOk t = true) : Ws lw4 [some (.scr ns), some (.ref 0), x2, some (eRs caps), some (eLs ls), some (.lst strangeL), some (.lst things), x7, x8, x9, x10, x11, x12, x13] S fun f S' => ∃ y7 y8 y9 : Option D, f = .nx [some (.scr ns), some (.ref 0), x2, some (eRs caps), some (eLs ls), some (.lst strangeL), some (.lst things), y7, y8, y9, x10, x11, x12, x13] ∧ Bag S' 0 := by
  unfold lw4
  obtain ⟨c1, c2, c3⟩ := rec_fact hls hl
  have hc : cIn (eLs ls) = true := by
    unfold eLs
    rw [cIn, c1, List.length_map]
    simp
    omega
  have hd : dD (eLs ls) ≤ 20 := by show dDs (ls.map eL) + 1 ≤ 20; omega
  have hw : wD (eLs ls) ≤ 16000 := c2
  simp [wp_iRg1, wipeD]
  have hrg : ∀ {S : Sto} {q : Its' → Sto → Prop}, Wp (rgOf (.int 0) (.int 4)) S q = q ((List.range 4).map fun i => .int (i : Nat), fun _ => True) S := fun {S q} => wp_rg (n := 4) (by omega)
  rw [hrg]
  refine wp_lcI (fun i : Nat => D.int (i : Nat)) (List.range 4) (fun i ds S' => ds.length = i ∧ (∀ x ∈ ds, rOk x = true) ∧ Bag S' 0) ⟨rfl, fun _ h => by simp at h, h⟩ (fun _ _ _ _ => trivial) ?_ ?_
  · rintro i f ds S2 hf ⟨rfl, hds, hB⟩
    simp [lN, setAll]
    refine Wp.mono (bentN 4 (eLs ls) hB hc hd) ?_
    rintro e S3 ⟨he, hD3⟩
    refine ⟨fun x hx => ?_, hD3.bag⟩
    rcases hx with hx | rfl
    · exact hds x hx
    · exact rOk_of he (by omega) (by omega)
  · rintro ds S2 ⟨hdl, hds, hB⟩
    rw [List.length_range] at hdl
    rw [add_lst (by simp [sizeLine_eq]; omega)]
    simp
    have hall : ∀ x ∈ things ++ ds, rOk x = true := by
      intro x hx
      rcases List.mem_append.mp hx with hx | hx
      · exact hok x hx
      · exact hds x hx
    generalize things ++ ds = all at hall
    rw [show all = all.map id by simp]
    refine ws_loop id all (fun i ρ S' => (∃ y7 y8 y9 : Option D, ρ = [some (.scr ns), some (.ref 0), x2, some (eRs caps), some (eLs ls), some (.lst strangeL), some (.lst things), y7, y8, y9, x10, x11, x12, x13]) ∧ Bag S' 0) ⟨⟨_, _, _, rfl⟩, hB⟩ (fun _ _ _ _ => trivial) ?_ ?_
    · rintro i t ρ S3 ht ⟨⟨y7, y8, y9, rfl⟩, hB3⟩
      have ha := hall t (List.mem_of_getElem? ht)
      simp [gL, lN, setAll]
      refine Ws.mono (body_one hB3 ha) ?_
      rintro f S4 ⟨z8, z9, rfl, hB4⟩
      exact ⟨⟨_, _, _, rfl⟩, hB4⟩
    · rintro ρ S3 ⟨⟨y7, y8, y9, rfl⟩, hB3⟩
      exact ⟨⟨y7, y8, y9, rfl⟩, hB3⟩
end
end K75

namespace K75
open PySem PySem.Spec L2 Nt Nx
open PyProof.Rows hiding St
def wAt (caps : List Ride) (ls : List Ln) (i : Nat) : Option Str := match ls[i]? with
  | none => none
  | some x => wordT caps (readT caps (ls.take i)).1 (readT caps (ls.take i)).2 x
section
variable {S : Sto} {q : D → Sto → Prop} {ns : List Int} {x2 x3 x4 x5 x6 x7 x8 x9 x10 x11 x12 x13 y7 y8 y9 : Option D} {caps : List Ride} {ls : List Ln} {t : D} {things : List D} {n : Nat}
theorem wAt_of {i : Nat} {x : Ln} (h : ls[i]? = some x) : wAt caps ls i = wordT caps (readT caps (ls.take i)).1 (readT caps (ls.take i)).2 x := by
  unfold wAt
  rw [h]
theorem left_at_ok (i : Nat) (hi : i < ls.length) : Wp (m_left_at [eRs caps, eLs ls, .int (i : Nat)]) S fun d S' => d = .tup ((readT caps (ls.take i)).1.map .int) ∧ Up S S' := by
  unfold m_left_at b_left_at
  simp
  refine Wp.mono (ahead_ok ls i (Nat.le_of_lt hi)) ?_
  rintro d S1 ⟨rfl, l, R, hl, hk⟩
  have e : tupleD S1 [.ref l] = some (.tup ((readT caps (ls.take i)).1.map .int)) := by
    unfold tupleD
    show (rdlD S1 (.ref l)).map D.tup = _
    rw [rdl_ref R.li]
    rfl
  simp [fld_left R, e]
  exact Up.of hk
theorem money_at_ok (i : Nat) (hi : i < ls.length) : Wp (m_money_at [eRs caps, eLs ls, .int (i : Nat)]) S fun d S' => d = .int (readT caps (ls.take i)).2 ∧ Up S S' := by
  unfold m_money_at b_money_at
  simp
  refine Wp.mono (ahead_ok ls i (Nat.le_of_lt hi)) ?_
  rintro d S1 ⟨rfl, l, R, hl, hk⟩
  simp [fld_money R]
  exact Up.of hk
theorem word_at_ok (i : Nat) (hi : i < ls.length) (hc : caps.length ≤ 10) : Wp (m_word_at [eRs caps, eLs ls, .int (i : Nat)]) S fun d S' => d = eO' (wAt caps ls i) ∧ Up S S' := by
  unfold m_word_at b_word_at
  simp
  refine Wp.mono (ahead_ok ls i (Nat.le_of_lt hi)) ?_
  rintro d S1 ⟨rfl, l, R, hl, hk⟩
  have hx : ls[i]? = some ls[i] := List.getElem?_eq_getElem hi
  generalize ls[i] = x at hx
  have s1 := is_rd (x := "word") R
  have s2 := wAt_of (caps := caps) hx
  simp [s1, ix_line hx, word_ok R (read_len _) hc x, s2]
  exact Up.of hk
theorem law_word2 (i : Nat) (hi : i < ls.length) (hls : LsOk ls) (hc : caps.length ≤ 10) : Wp (m__law_word [eRs caps, eLs ls, .int (i : Nat)]) S q = q (eO' (wAt caps ls i)) S := by
  have hx : ls[i]? = some ls[i] := List.getElem?_eq_getElem hi
  have hm : ls[i] ∈ ls := List.getElem_mem hi
  generalize ls[i] = y at hx hm
  rw [law_word_ok ls i y hx (fun r c e => by have := hls y hm; rw [e] at this; exact this.1) hc, wAt_of hx]
theorem bag_set {b n : Nat} {o : O} (h : Bag S b) (hn : n ≠ b) : Bag (S.set n o) b := by
  obtain ⟨w, s, p, cs, e, r⟩ := h
  exact ⟨w, s, p, cs, by rw [List.getElem?_set_ne hn]; exact e, r⟩
theorem wAt_ok {i : Nat} {v : Str} (h : wAt caps ls i = some v) : PyData.strOk v = true := by
  unfold wAt at h
  split at h
  · cases h
  · exact word_str h
theorem eO_alk (o : Option Str) (h : ∀ v, o = some v → PyData.strOk v = true) : alk (eO' o) = true ∧ nd (eO' o) = 1 := by
  cases o with
  | none => exact ⟨rfl, rfl⟩
  | some v => exact ⟨h v rfl, rfl⟩
def wordsT (caps : List Ride) (ls : List Ln) (k : Nat) : List D := (List.range k).map fun i => eO' (wAt caps ls i)
theorem wordsT_len (k : Nat) : (wordsT caps ls k).length = k := by simp [wordsT]
theorem wordsT_succ (k : Nat) : wordsT caps ls k ++ [eO' (wAt caps ls k)] = wordsT caps ls (k + 1) := by
  unfold wordsT
  rw [List.range_succ, List.map_append]
  rfl
theorem wbody_ok (h : Bag S 0) (hc : caps.length ≤ 5) (hl : ls.length ≤ 10) (hls : LsOk ls) (i : Nat) (hi : i < ls.length) (hn : n ≠ 0) (hw : S[n]? = some (.lst (wordsT caps ls i))) : Ws wbody [some (.scr ns), some (.ref 0), x2, some (eRs caps), some (eLs ls), some (.lst strangeL), some (.lst things), y7, y8, y9, some (.ref n), some (.int (i : Nat)), x12, x13] S fun f S' => (∃ y12 : Option D, f = .nx [some (.scr ns), some (.ref 0), x2, some (eRs caps), some (eLs ls), some (.lst strangeL), some (.lst things), y7, y8, y9, some (.ref n), some (.int (i : Nat)), y12, x13]) ∧ S'[n]? = some (.lst (wordsT caps ls (i + 1))) ∧ Bag S' 0 := by
  unfold wbody wb0 wb1 wb2
  rw [alike_eq]
  have h3 : (3 : Nat) ≤ sizeLine := by decide
  have hlt := (List.getElem?_eq_some_iff.mp hw).1
  simp
  refine Wp.mono (left_at_ok (caps := caps) i hi) ?_
  rintro d S1 ⟨rfl, hU1⟩
  refine Wp.mono (money_at_ok (caps := caps) i hi) ?_
  rintro d S2 ⟨rfl, hU2⟩
  refine Wp.mono (word_at_ok (caps := caps) i hi (by omega)) ?_
  rintro d S3 ⟨rfl, hU3⟩
  have hU := hU1.trans (hU2.trans hU3)
  have hw3 : S3[n]? = some (.lst (wordsT caps ls i)) := by rw [hU.same n hlt]; exact hw
  have hB3 := hU.bag h
  have hlt3 := (List.getElem?_eq_some_iff.mp hw3).1
  have hap : appendF S3 (wordsT caps ls i) [eO' (wAt caps ls i)] = some (.non, wordsT caps ls (i + 1)) := by
    rw [app_of (by rw [wordsT_len]; omega), wordsT_succ]
  have hl3 : lstD S3 (.ref n) = some (wordsT caps ls i) := lst_ref hw3
  simp [h3, hl3, law_word2 i hi hls (show caps.length ≤ 10 by omega), wp_mtM hw3, hap]
  have hs : (S3.set n (.lst (wordsT caps ls (i + 1))))[n]? = some (.lst (wordsT caps ls (i + 1))) := List.getElem?_set_self hlt3
  have hix : ∀ S : Sto, S[n]? = some (.lst (wordsT caps ls (i + 1))) → ixD S (.ref n) (.int (-1)) = some (eO' (wAt caps ls i)) := fun S e => by
    show (seqD S (.ref n)).bind (fun xs => L2.atI xs (-1)) = _
    rw [show seqD S (.ref n) = some (wordsT caps ls (i + 1)) by unfold seqD; dsimp only; rw [e], Option.bind_some, ← wordsT_succ, atI_last]
  rw [law_left_ok ls i (Nat.le_of_lt hi)]
  simp [law_money_ok caps ls i (Nat.le_of_lt hi), hix _ hs]
  have hlen : (readT caps (ls.take i)).1.length ≤ 5 := by rw [read_len]; exact hc
  obtain ⟨k1, k2⟩ := eO_alk (wAt caps ls i) fun v hv => wAt_ok hv
  have k3 : alk (.tup ((readT caps (ls.take i)).1.map .int)) = true := by
    unfold alk
    exact alks_map fun _ _ => rfl
  have k4 : nd (.tup ((readT caps (ls.take i)).1.map .int)) ≤ 6 := by
    show nds ((readT caps (ls.take i)).1.map .int) + 1 ≤ 6
    have := nds_map (f := D.int) (xs := (readT caps (ls.take i)).1) (n := 1) fun _ _ => Nat.le_refl _
    omega
  refine Wp.mono (alike_ok (d := .lst [.tup ((readT caps (ls.take i)).1.map .int), .int (readT caps (ls.take i)).2, eO' (wAt caps ls i)]) (by simp [alk, alks, k1] at k3 ⊢; exact k3) (by simp [nd, nds, k2] at k4 ⊢; omega)) ?_
  rintro e S5 ⟨rfl, o, rfl⟩
  simp
  refine ⟨?_, Up.snoc.bag (bag_set hB3 hn)⟩
  rw [List.getElem?_append_left (by rw [List.length_set]; exact hlt3)]
  exact hs
theorem st5 (h : Bag S 0) : Ws lw5 [some (.scr ns), some (.ref 0), x2, some (eRs caps), some (eLs ls), some (.lst strangeL), some (.lst things), y7, y8, y9, x10, x11, x12, x13] S fun f S' => ∃ n : Nat, f = .nx [some (.scr ns), some (.ref 0), x2, some (eRs caps), some (eLs ls), some (.lst strangeL), some (.lst things), y7, y8, y9, some (.ref n), x11, x12, x13] ∧ n ≠ 0 ∧ S'[n]? = some (.lst (wordsT caps ls 0)) ∧ Bag S' 0 := by
  unfold lw5
  have h0 : (0 : Nat) ≤ sizeLine := by decide
  have hb := h.lt
  simp [h0]
  refine ⟨by rintro rfl; simp at hb, ?_, Up.snoc.bag h⟩
  rfl
theorem st6 (h : Bag S 0) (hc : caps.length ≤ 5) (hl : ls.length ≤ 10) (hls : LsOk ls) (hn : n ≠ 0) (hw : S[n]? = some (.lst (wordsT caps ls 0))) : Ws lw6 [some (.scr ns), some (.ref 0), x2, some (eRs caps), some (eLs ls), some (.lst strangeL), some (.lst things), y7, y8, y9, some (.ref n), x11, x12, x13] S fun f S' => ∃ y11 y12 : Option D, f = .nx [some (.scr ns), some (.ref 0), x2, some (eRs caps), some (eLs ls), some (.lst strangeL), some (.lst things), y7, y8, y9, some (.ref n), y11, y12, x13] ∧ S'[n]? = some (.lst (wordsT caps ls ls.length)) ∧ Bag S' 0 := by
  unfold lw6
  simp [wp_iRg1, len_Ls]
  rw [wp_rg (by omega)]
  refine ws_loop (fun i : Nat => D.int (i : Nat)) (List.range ls.length) (fun i ρ S' => (∃ y11 y12 : Option D, ρ = [some (.scr ns), some (.ref 0), x2, some (eRs caps), some (eLs ls), some (.lst strangeL), some (.lst things), y7, y8, y9, some (.ref n), y11, y12, x13]) ∧ S'[n]? = some (.lst (wordsT caps ls i)) ∧ Bag S' 0) ⟨⟨_, _, rfl⟩, hw, h⟩ (fun _ _ _ _ => trivial) ?_ ?_
  · rintro i k ρ S1 hk ⟨⟨y11, y12, rfl⟩, hw1, hB⟩
    obtain ⟨hkl, rfl⟩ : i < ls.length ∧ k = i := by
      obtain ⟨h1, h2⟩ := List.getElem?_eq_some_iff.mp hk
      rw [List.length_range] at h1
      exact ⟨h1, by rw [← h2, List.getElem_range]⟩
    simp [gL, lN, setAll]
    refine Ws.mono (wbody_ok hB hc hl hls k hkl hn hw1) ?_
    rintro f S2 ⟨⟨y12, rfl⟩, hw2, hB2⟩
    exact ⟨⟨_, _, rfl⟩, hw2, hB2⟩
  · rintro ρ S1 ⟨⟨y11, y12, rfl⟩, hw1, hB⟩
    rw [List.length_range] at hw1
    exact ⟨⟨_, _, rfl⟩, hw1, hB⟩
end
end K75

namespace K75
open PySem PySem.Spec L2 Nt Nx
open PyProof.Rows hiding St
/-! ### the meter -/
def fsM (caps : List Ride) (l r c e : Nat) : List (Str × D) := [("its_caps", eRs caps), ("its_left", .ref l), ("its_rides", .ref r), ("its_charges", .ref c), ("its_ends", .ref e)]
structure MtAt (S : Sto) (n l r c e : Nat) (caps : List Ride) (left : List Int) (rs : List D) (cs es : List Int) : Prop where
  at_ : S[n]? = some (.ins "Meter" (fsM caps l r c e))
  li : S[l]? = some (.lst (left.map .int))
  ri : S[r]? = some (.lst rs)
  ch : S[c]? = some (.lst (cs.map .int))
  en : S[e]? = some (.lst (es.map .int))
  ndp : [n, l, r, c, e].Nodup
theorem f1 : (("its_left" : Str) == "its_caps") = false := by decide +kernel
theorem f2 : (("its_rides" : Str) == "its_caps") = false := by decide +kernel
theorem f3' : (("its_rides" : Str) == "its_left") = false := by decide +kernel
theorem f4 : (("its_charges" : Str) == "its_caps") = false := by decide +kernel
theorem f5 : (("its_charges" : Str) == "its_left") = false := by decide +kernel
theorem f6 : (("its_charges" : Str) == "its_rides") = false := by decide +kernel
theorem f7 : (("its_ends" : Str) == "its_caps") = false := by decide +kernel
theorem f8 : (("its_ends" : Str) == "its_left") = false := by decide +kernel
theorem f9 : (("its_ends" : Str) == "its_rides") = false := by decide +kernel
theorem f10 : (("its_ends" : Str) == "its_charges") = false := by decide +kernel
section
variable {S : Sto} {q : D → Sto → Prop} {n l r c e : Nat} {caps : List Ride} {left : List Int} {rs : List D} {cs es : List Int}
theorem mt_fld {f : Str} {fs : List (Str × D)} (h : S[n]? = some (.ins "Meter" fs)) : fldD ["Meter"] f S (.ref n) = fs.lookup f := by
  unfold fldD
  dsimp only
  rw [h]
  simp
theorem MtAt.caps_ (M : MtAt S n l r c e caps left rs cs es) : fldD ["Meter"] "its_caps" S (.ref n) = some (eRs caps) := by
  rw [mt_fld M.at_]; simp [fsM]
theorem MtAt.left_ (M : MtAt S n l r c e caps left rs cs es) : fldD ["Meter"] "its_left" S (.ref n) = some (.ref l) := by
  rw [mt_fld M.at_]; simp [fsM, List.lookup_cons, f1]
theorem MtAt.rides_ (M : MtAt S n l r c e caps left rs cs es) : fldD ["Meter"] "its_rides" S (.ref n) = some (.ref r) := by
  rw [mt_fld M.at_]; simp [fsM, List.lookup_cons, f2, f3']
theorem MtAt.charges_ (M : MtAt S n l r c e caps left rs cs es) : fldD ["Meter"] "its_charges" S (.ref n) = some (.ref c) := by
  rw [mt_fld M.at_]; simp [fsM, List.lookup_cons, f4, f5, f6]
theorem MtAt.ends_ (M : MtAt S n l r c e caps left rs cs es) : fldD ["Meter"] "its_ends" S (.ref n) = some (.ref e) := by
  rw [mt_fld M.at_]; simp [fsM, List.lookup_cons, f7, f8, f9, f10]
theorem MtAt.is (M : MtAt S n l r c e caps left rs cs es) {x : Str} (h1 : (x == ("its_caps" : Str)) = false := by decide +kernel) (h2 : (x == ("its_left" : Str)) = false := by decide +kernel) (h3 : (x == ("its_rides" : Str)) = false := by decide +kernel) (h4 : (x == ("its_charges" : Str)) = false := by decide +kernel) (h5 : (x == ("its_ends" : Str)) = false := by decide +kernel) : isOf "Meter" x S (.ref n) = some (.ref n) := by
  unfold isOf
  dsimp only
  rw [M.at_]
  simp [fsM, List.lookup_cons, h1, h2, h3, h4, h5]
theorem whole_ok (h : fldD ["Meter"] "its_caps" S (.ref n) = some (eRs caps)) : Wp (m_Meter_whole [.ref n]) S q = q (.ref S.length) (S ++ [.lst (caps.map fun r => .int r.2)]) := by
  refine Wp.eqn ?_
  unfold m_Meter_whole b_Meter_whole
  simp [h, wipeD]
  rw [show eRs caps = .tup (caps.map eR) from rfl]
  simp
  rw [wp_lcE eR (fun _ => true) (fun r => .int r.2) caps trivial fun r hi => by simp [lT, lCs, lN, lNl, setAll, eR]]
  simp
def RideOk (r : Ride) : Prop := GoodZ r.1 ∧ 0 ≤ r.2 ∧ r.2 ≤ 1000000
theorem ride_v {x : Ride} (h : RideOk x) : vOk (eR x) = true ∧ faultX (eR x) = .non := by
  obtain ⟨h1, h2, h3⟩ := h
  have a := cl_of _ (eI_fact h1).1
  have v : vOk (.int x.2) = true := by simp [vOk]; omega
  refine ⟨by simp [eR, vOks, vOk, a.v] at v ⊢; exact v, ?_⟩
  rw [fault_non]
  show (zonB (.tup (x.1.map .int)) && priB (.int x.2)) = true
  rw [zonB_ints, h1.ok]
  simp [priB, h2, h3]
theorem ix_li (h : S[l]? = some (.lst (left.map .int))) {i : Nat} (hi : i < left.length) : ixD S (.ref l) (.int (i : Nat)) = some (.int (left.getD i 0)) := by
  show (seqD S (.ref l)).bind (fun xs => L2.atI xs (i : Nat)) = _
  rw [show seqD S (.ref l) = some (left.map .int) by unfold seqD; dsimp only; rw [h], Option.bind_some]
  unfold L2.atI
  rw [List.length_map, ixN_nat hi, Option.bind_some, List.getElem?_map, List.getElem?_eq_getElem hi]
  simp [hi]
/-- what is charged -/
def chT (caps : List Ride) (left : List Int) (x : Ride) : Int := minI (x.2 :: (whoZ caps x).map fun i => left.getD i 0)
theorem would_ok (M : MtAt S n l r c e caps left rs cs es) (hl : left.length = caps.length) (hc : caps.length ≤ 10) (hr : rs.length < 2000) (x : Ride) (hx : RideOk x) : Wp (m_Meter_would [.ref n, eR x]) S q = q (.int (chT caps left x)) S := by
  refine Wp.eqn ?_
  unfold m_Meter_would b_Meter_would
  obtain ⟨v1, v2⟩ := ride_v hx
  have e1 : lenD S [.ref r] = some (.int rs.length) := by
    show (seqD S (.ref r)).map (fun xs => D.int xs.length) = _
    rw [show seqD S (.ref r) = some rs by unfold seqD; dsimp only; rw [M.ri]]
    rfl
  have e2 : ¬ ((rs.length : Int) = 2000) := by omega
  have e3 : isnD S .non .non = some (.bl false) := rfl
  simp [M.rides_, e1, e2, row_ok _ v1, v2, e3, M.caps_, who_holds_ok, wipeD]
  rw [show eR x = .tup [eI x.1, .int x.2] from rfl]
  simp [atI]
  rw [wp_lcE (fun i : Nat => .int (i : Nat)) (fun _ => true) (fun i => .int (left.getD i 0)) (whoZ caps x) trivial fun i hi => by
    have := who_lt hi
    simp [lN, setAll, M.left_, ix_li M.li (show i < left.length by omega)]]
  have := who_len (caps := caps) x
  have e : (D.int x.2 :: List.map (fun i => D.int (left.getD i 0)) (whoZ caps x)) = (x.2 :: (whoZ caps x).map fun i => left.getD i 0).map .int := by simp [Function.comp_def]
  simp only [filter_tt]
  rw [e, min_of _ (by simp)]
  simp [sizeLine_eq, chT]
  omega
end
end K75

namespace K75
open PySem PySem.Spec L2 Nt Nx
open PyProof.Rows hiding St
section
variable {S : Sto} {q : D → Sto → Prop} {n l r c e : Nat} {caps : List Ride} {left : List Int} {rs : List D} {cs es : List Int}
theorem MtAt.setl (M : MtAt S n l r c e caps left rs cs es) (left' : List Int) : MtAt (S.set l (.lst (left'.map .int))) n l r c e caps left' rs cs es := by
  have h := M.ndp
  simp at h
  obtain ⟨⟨h1, h2, h3, h4⟩, ⟨h5, h6, h7⟩, ⟨h8, h9⟩, h10⟩ := h
  have hl := (List.getElem?_eq_some_iff.mp M.li).1
  exact ⟨by rw [List.getElem?_set_ne (Ne.symm h1)]; exact M.at_, List.getElem?_set_self hl, by rw [List.getElem?_set_ne h5]; exact M.ri, by rw [List.getElem?_set_ne h6]; exact M.ch, by rw [List.getElem?_set_ne h7]; exact M.en, M.ndp⟩
theorem MtAt.setr (M : MtAt S n l r c e caps left rs cs es) (rs' : List D) : MtAt (S.set r (.lst rs')) n l r c e caps left rs' cs es := by
  have h := M.ndp
  simp at h
  obtain ⟨⟨h1, h2, h3, h4⟩, ⟨h5, h6, h7⟩, ⟨h8, h9⟩, h10⟩ := h
  have hl := (List.getElem?_eq_some_iff.mp M.ri).1
  exact ⟨by rw [List.getElem?_set_ne (Ne.symm h2)]; exact M.at_, by rw [List.getElem?_set_ne (Ne.symm h5)]; exact M.li, List.getElem?_set_self hl, by rw [List.getElem?_set_ne h8]; exact M.ch, by rw [List.getElem?_set_ne h9]; exact M.en, M.ndp⟩
theorem MtAt.setc (M : MtAt S n l r c e caps left rs cs es) (cs' : List Int) : MtAt (S.set c (.lst (cs'.map .int))) n l r c e caps left rs cs' es := by
  have h := M.ndp
  simp at h
  obtain ⟨⟨h1, h2, h3, h4⟩, ⟨h5, h6, h7⟩, ⟨h8, h9⟩, h10⟩ := h
  have hl := (List.getElem?_eq_some_iff.mp M.ch).1
  exact ⟨by rw [List.getElem?_set_ne (Ne.symm h3)]; exact M.at_, by rw [List.getElem?_set_ne (Ne.symm h6)]; exact M.li, by rw [List.getElem?_set_ne (Ne.symm h8)]; exact M.ri, List.getElem?_set_self hl, by rw [List.getElem?_set_ne h10]; exact M.en, M.ndp⟩
theorem MtAt.sete (M : MtAt S n l r c e caps left rs cs es) (es' : List Int) : MtAt (S.set e (.lst (es'.map .int))) n l r c e caps left rs cs es' := by
  have h := M.ndp
  simp at h
  obtain ⟨⟨h1, h2, h3, h4⟩, ⟨h5, h6, h7⟩, ⟨h8, h9⟩, h10⟩ := h
  have hl := (List.getElem?_eq_some_iff.mp M.en).1
  exact ⟨by rw [List.getElem?_set_ne (Ne.symm h4)]; exact M.at_, by rw [List.getElem?_set_ne (Ne.symm h7)]; exact M.li, by rw [List.getElem?_set_ne (Ne.symm h9)]; exact M.ri, by rw [List.getElem?_set_ne (Ne.symm h10)]; exact M.ch, List.getElem?_set_self hl, M.ndp⟩
theorem tap_ok (M : MtAt S n l r c e caps left rs cs es) (hl : left.length = caps.length) (hc : caps.length ≤ 10) (hr : rs.length < 200) (hcs : cs.length < 200) (x : Ride) (hx : RideOk x) :
    Wp (m_Meter_tap [.ref n, eR x]) S fun d S' => d = .int (chT caps left x) ∧ MtAt S' n l r c e caps (minus left (whoZ caps x) (chT caps left x)) (rs ++ [eR x]) (cs ++ [chT caps left x]) es ∧ S'.length = S.length ∧ ∀ k, k ≠ l → k ≠ r → k ≠ c → S'[k]? = S[k]? := by
  unfold m_Meter_tap b_Meter_tap
  have i1 := M.is (x := "would")
  simp [i1, would_ok M hl hc (show rs.length < 2000 by omega) x hx, M.caps_, who_holds_ok]
  generalize chT caps left x = z
  refine ws_loop (fun i : Nat => D.int (i : Nat)) (whoZ caps x) (fun i ρ S' => S' = S.set l (.lst ((minus left ((whoZ caps x).take i) z).map .int)) ∧ ∃ a, ρ = [some (.ref n), some (eR x), some (.int z), a]) ⟨?_, _, rfl⟩ (fun _ _ _ _ => trivial) ?_ ?_
  · have := M.li
    simp [minus]
    exact (set_self this).symm
  · rintro i w ρ S' hi ⟨rfl, a, rfl⟩
    have hw := who_lt (List.mem_of_getElem? hi)
    have M' := M.setl (minus left ((whoZ caps x).take i) z)
    have hwl : w < (minus left ((whoZ caps x).take i) z).length := by rw [minus_len]; omega
    simp [gL, lN, setAll, M'.left_]
    rw [getL_ref M'.li hwl]
    simp
    rw [setL_ref M'.li hwl]
    simp [take_succ' hi, minus_snoc]
  · rintro ρ S' ⟨rfl, a, rfl⟩
    rw [List.take_length]
    have M1 := M.setl (minus left (whoZ caps x) z)
    have M2 := M1.setr (rs ++ [eR x])
    have M3 := M2.setc (cs ++ [z])
    have a1 : ∀ S, appendF S rs [eR x] = some (.non, rs ++ [eR x]) := fun S => app_of (by omega)
    have a2 : ∀ S, appendF S (cs.map .int) [.int z] = some (.non, (cs ++ [z]).map .int) := fun S => by rw [app_of (by simp; omega)]; simp
    have g1 := lst_ref M1.ri
    have g2 := lst_ref M2.ch
    simp [M1.rides_, g1, wp_mtM M1.ri, a1, M2.charges_, g2, wp_mtM M2.ch, a2]
    refine ⟨by simpa using M3, fun k h1 h2 h3 => ?_⟩
    rw [List.getElem?_set_ne (Ne.symm h3), List.getElem?_set_ne (Ne.symm h2), List.getElem?_set_ne (Ne.symm h1)]
theorem cut_ints (cs : List Int) (a b : Option Int) : ∃ ns : List Int, Nt.cutD (cs.map D.int) a b = ns.map .int := by
  unfold Nt.cutD
  exact ⟨_, by rw [← List.map_drop, ← List.map_take]⟩
theorem day_from_ok (M : MtAt S n l r c e caps left rs cs es) (a b : Int) : Wp (m_Meter_day_from [.ref n, .int a, .int b]) S fun d S' => S' = S := by
  unfold m_Meter_day_from b_Meter_day_from
  obtain ⟨ns, hns⟩ := cut_ints cs (some a) (some b)
  have e1 : slD S (.ref c) (some a) (some b) = some (.lst (ns.map .int)) := by
    show (rdlD S (.ref c)).map (fun xs => D.lst (Nt.cutD xs (some a) (some b))) = _
    rw [rdl_ref M.ch, Option.map_some, hns]
  have e2 : sumD S [.lst (ns.map .int)] = some (.int ns.sum) := by
    have := sum_ints (S := S) id ns
    simpa using this
  simp [M.charges_, e1, e2]
theorem setF_m {f : Str} {fs : List (Str × D)} {z : D} (h : S[n]? = some (.ins "Meter" fs)) (hf : fs.length < 1000) : setF ["Meter"] f S (.ref n) z = some (S.set n (.ins "Meter" (putD f z fs))) := by
  unfold setF
  dsimp only
  rw [h]
  dsimp only
  rw [if_pos ⟨by simp, hf⟩]
theorem put_l {l' : Nat} : putD "its_left" (.ref l') (fsM caps l r c e) = fsM caps l' r c e := by
  have h1 : ¬ (("its_caps" : Str) = "its_left") := by decide +kernel
  simp [fsM, putD, h1]
theorem tru_li (h : S[e]? = some (.lst rs)) : truD S (.ref e) = some (!rs.isEmpty) := by
  unfold truD
  simp [seqD, h]
theorem MtAt.whole (M : MtAt S n l r c e caps left rs cs es) : MtAt ((S ++ [O.lst (caps.map fun r => D.int r.2)]).set n (.ins "Meter" (fsM caps S.length r c e))) n S.length r c e caps (caps.map (·.2)) rs cs es := by
  have h := M.ndp
  simp at h
  obtain ⟨⟨h1, h2, h3, h4⟩, ⟨h5, h6, h7⟩, ⟨h8, h9⟩, h10⟩ := h
  have hn := (List.getElem?_eq_some_iff.mp M.at_).1
  have hr := (List.getElem?_eq_some_iff.mp M.ri).1
  have hc := (List.getElem?_eq_some_iff.mp M.ch).1
  have he := (List.getElem?_eq_some_iff.mp M.en).1
  refine ⟨List.getElem?_set_self (by simp; omega), ?_, ?_, ?_, ?_, ?_⟩
  · rw [List.getElem?_set_ne (by omega), List.getElem?_append_right (Nat.le_refl _), Nat.sub_self]
    simp [Function.comp_def]
  · rw [List.getElem?_set_ne h2, List.getElem?_append_left hr]; exact M.ri
  · rw [List.getElem?_set_ne h3, List.getElem?_append_left hc]; exact M.ch
  · rw [List.getElem?_set_ne h4, List.getElem?_append_left he]; exact M.en
  · simp
    exact ⟨⟨by omega, h2, h3, h4⟩, ⟨by omega, by omega, by omega⟩, ⟨h8, h9⟩, h10⟩
theorem new_day_ok (M : MtAt S n l r c e caps left rs cs es) (hes : es.length < 200) :
    Wp (m_Meter_new_day [.ref n]) S fun d S' => ∃ es', es'.length = es.length + 1 ∧ MtAt S' n S.length r c e caps (caps.map (·.2)) rs cs es' ∧ S.length < S'.length ∧ ∀ k, k < S.length → k ≠ n → k ≠ e → S'[k]? = S[k]? := by
  unfold m_Meter_new_day b_Meter_new_day
  have h := M.ndp
  simp at h
  obtain ⟨⟨h1, h2, h3, h4⟩, ⟨h5, h6, h7⟩, ⟨h8, h9⟩, h10⟩ := h
  have hn := (List.getElem?_eq_some_iff.mp M.at_).1
  have M1 := M.sete (es ++ [(rs.length : Int)])
  have e1 : ∀ S, S[r]? = some (.lst rs) → lenD S [.ref r] = some (.int rs.length) := fun S e => by
    show (seqD S (.ref r)).map (fun xs => D.int xs.length) = _
    rw [show seqD S (.ref r) = some rs by unfold seqD; dsimp only; rw [e]]
    rfl
  have a2 : ∀ S, appendF S (es.map .int) [.int rs.length] = some (.non, (es ++ [(rs.length : Int)]).map .int) := fun S => by rw [app_of (by simp; omega)]; simp
  have g1 := lst_ref M.en
  have key : ∀ first : Int, Ws (sSq (sEx (eMt1 appendF (eFl ["Meter"] "its_ends" (eV 0)) (aCons (eB lenD (aCons (eFl ["Meter"] "its_rides" (eV 0)) (aNil))) (aNil)))) (sSq (sFl ["Meter"] "its_left" (eV 0) (eMe "Meter" "whole" 1 m_Meter_whole (eV 0) aNil)) (sRt (eMe "Meter" "day_from" 3 m_Meter_day_from (eV 0) (aCons (eV 1) (aCons (eB lenD (aCons (eFl ["Meter"] "its_rides" (eV 0)) (aNil))) (aNil))))))) [some (.ref n), some (.int first)] S fun f S' => (∃ d, f = .rt d) ∧ ∃ es', es'.length = es.length + 1 ∧ MtAt S' n S.length r c e caps (caps.map (·.2)) rs cs es' ∧ S.length < S'.length ∧ ∀ k, k < S.length → k ≠ n → k ≠ e → S'[k]? = S[k]? := by
    intro first
    simp [M.ends_, g1, M.rides_, e1 _ M.ri, wp_mtM M.en, a2]
    have M1' : MtAt (S.set e (O.lst (es.map D.int ++ [D.int (rs.length : Int)]))) n l r c e caps left rs cs (es ++ [(rs.length : Int)]) := by simpa using M1
    have sl : (S.set e (O.lst (es.map D.int ++ [D.int (rs.length : Int)]))).length = S.length := by simp
    have sk : ∀ k, k ≠ e → (S.set e (O.lst (es.map D.int ++ [D.int (rs.length : Int)])))[k]? = S[k]? := fun k hk => List.getElem?_set_ne (Ne.symm hk)
    generalize S.set e (O.lst (es.map D.int ++ [D.int (rs.length : Int)])) = S1 at M1' sl sk
    have M2 := M1'.whole
    have at2 : (S1 ++ [O.lst (caps.map fun r => D.int r.2)])[n]? = some (.ins "Meter" (fsM caps l r c e)) := by
      rw [List.getElem?_append_left (by omega)]
      exact M1'.at_
    have st := setF_m (f := "its_left") (z := .ref S1.length) at2 (by show 5 < 1000; decide)
    rw [put_l] at st
    have i1 := M1'.is (x := "whole")
    have i2 := M2.is (x := "day_from")
    simp [i1, whole_ok M1'.caps_, st, i2, M2.rides_, e1 _ M2.ri]
    refine Wp.mono (day_from_ok M2 first rs.length) ?_
    rintro d S3 rfl
    rw [← sl]
    refine ⟨es ++ [(rs.length : Int)], by simp, M2, by simp, fun k hk k1 k2 => ?_⟩
    rw [List.getElem?_set_ne (Ne.symm k1), List.getElem?_append_left hk, sk k k2]
  have fin : ∀ first : Int, Ws (sSq (sEx (eMt1 appendF (eFl ["Meter"] "its_ends" (eV 0)) (aCons (eB lenD (aCons (eFl ["Meter"] "its_rides" (eV 0)) (aNil))) (aNil)))) (sSq (sFl ["Meter"] "its_left" (eV 0) (eMe "Meter" "whole" 1 m_Meter_whole (eV 0) aNil)) (sRt (eMe "Meter" "day_from" 3 m_Meter_day_from (eV 0) (aCons (eV 1) (aCons (eB lenD (aCons (eFl ["Meter"] "its_rides" (eV 0)) (aNil))) (aNil))))))) [some (.ref n), some (.int first)] S fun f S' => (match f with | .rt d => True | _ => False) ∧ ∃ es', es'.length = es.length + 1 ∧ MtAt S' n S.length r c e caps (caps.map (·.2)) rs cs es' ∧ S.length < S'.length ∧ ∀ k, k < S.length → k ≠ n → k ≠ e → S'[k]? = S[k]? := fun first => by
    refine Ws.mono (key first) ?_
    rintro f S' ⟨⟨d, rfl⟩, h⟩
    exact ⟨trivial, h⟩
  rw [wp_fnB, if_pos (show [D.ref n].length = 1 from rfl), ws_sSq]
  have e0 : ∃ first : Int, Ws (sSet 1 (tIf' (tV (eFl ["Meter"] "its_ends" (eV 0))) (eO ixD (eFl ["Meter"] "its_ends" (eV 0)) (eNg (eC (.int 1)))) (eC (.int 0)))) [some (.ref n), none] S fun f S' => f = .nx [some (.ref n), some (.int first)] ∧ S' = S := by
    by_cases hes0 : es = []
    · subst hes0
      refine ⟨0, ?_⟩
      have t1 := tru_li M.en
      simp at t1
      simp [M.ends_, t1]
    · obtain ⟨l0, z, rfl⟩ : ∃ l0 z, es = l0 ++ [z] := ⟨es.dropLast, es.getLast hes0, (List.dropLast_concat_getLast hes0).symm⟩
      refine ⟨z, ?_⟩
      have t1 := tru_li M.en
      have ix : ixD S (.ref e) (.int (-1)) = some (.int z) := by
        show (seqD S (.ref e)).bind (fun xs => L2.atI xs (-1)) = _
        rw [show seqD S (.ref e) = some ((l0 ++ [z]).map .int) by unfold seqD; dsimp only; rw [M.en], Option.bind_some, List.map_append]
        exact atI_last
      simp at t1
      simp [M.ends_, t1, ix]
  obtain ⟨first, e0⟩ := e0
  refine Ws.mono e0 ?_
  rintro f _ ⟨rfl, rfl⟩
  rw [Th_nx]
  refine Ws.mono (key first) ?_
  rintro f S' ⟨⟨d, rfl⟩, h⟩
  exact h
end
end K75

namespace K75
open PySem PySem.Spec L2 Nt Nx
open PyProof.Rows hiding St
section
variable {S : Sto} {q : D → Sto → Prop} {n l r c e : Nat} {caps : List Ride} {left : List Int} {rs : List D} {cs es : List Int}
theorem checked_ok (hcaps : ∀ x ∈ caps, RideOk x) (hc : caps.length ≤ 10) : Wp (m_checked_passes [eRs caps]) S q = q (eRs caps) S := by
  refine Wp.eqn ?_
  unfold m_checked_passes b_checked_passes
  have e1 : ¬ ((12 : Int) < caps.length) := by omega
  rw [show eRs caps = .tup (caps.map eR) from rfl]
  simp [isTy, e1, pairsI_map]
  refine ws_loop (fun p : Ride × Nat => .tup [.int (p.2 : Nat), eR p.1]) caps.zipIdx (fun i ρ S' => (∃ a b c, ρ = [some (.tup (caps.map eR)), a, b, c]) ∧ S' = S) ⟨⟨_, _, _, rfl⟩, rfl⟩ (fun _ _ _ _ => trivial) ?_ ?_
  · rintro i p ρ S1 hp ⟨⟨a, b, c, rfl⟩, rfl⟩
    have hm := List.mem_of_getElem? hp
    have hx : RideOk p.1 := hcaps _ (by
      obtain ⟨x, k⟩ := p
      have := List.mem_zipIdx hm
      simp at this
      rw [this.2]
      exact List.getElem_mem _)
    obtain ⟨v1, v2⟩ := ride_v hx
    have e3 : isnD S1 .non .non = some (.bl false) := rfl
    simp [gL, lT, lCs, lN, lNl, setAll, row_ok _ v1, v2, e3]
  · rintro ρ S1 ⟨⟨a, b, c, rfl⟩, rfl⟩
    simp
theorem put_caps {a : D} : putD "its_caps" a [] = [(("its_caps" : Str), a)] := rfl
theorem init_m (hcaps : ∀ x ∈ caps, RideOk x) (hc : caps.length ≤ 10) : Wp (m_Meter___init__ [.ref S.length, eRs caps]) (S ++ [.ins "Meter" []]) fun d S' => d = .non ∧ ∃ l r c e, MtAt S' S.length l r c e caps (caps.map (·.2)) [] [] [] ∧ S.length < l ∧ S.length < r ∧ S.length < c ∧ S.length < e ∧ ∀ k, k < S.length → S'[k]? = S[k]? := by
  have h0 : (S ++ [O.ins "Meter" []])[S.length]? = some (.ins "Meter" []) := by simp
  have d1 : ¬ (("its_caps" : Str) = "its_left") := by decide +kernel
  have d2 : ¬ (("its_caps" : Str) = "its_rides") := by decide +kernel
  have d3 : ¬ (("its_left" : Str) = "its_rides") := by decide +kernel
  have d4 : ¬ (("its_caps" : Str) = "its_charges") := by decide +kernel
  have d5 : ¬ (("its_left" : Str) = "its_charges") := by decide +kernel
  have d6 : ¬ (("its_rides" : Str) = "its_charges") := by decide +kernel
  have d7 : ¬ (("its_caps" : Str) = "its_ends") := by decide +kernel
  have d8 : ¬ (("its_left" : Str) = "its_ends") := by decide +kernel
  have d9 : ¬ (("its_rides" : Str) = "its_ends") := by decide +kernel
  have d10 : ¬ (("its_charges" : Str) = "its_ends") := by decide +kernel
  have z0 : (0 : Nat) ≤ sizeLine := by decide
  have z2 : (2 : Nat) ≤ sizeLine := by decide
  unfold m_Meter___init__ b_Meter___init__
  simp [checked_ok hcaps hc]
  rw [setF_m h0 (by show 0 < 1000; decide), put_caps]
  simp
  have h1 : (S ++ [O.ins "Meter" [(("its_caps" : Str), eRs caps)]])[S.length]? = some (.ins "Meter" [(("its_caps" : Str), eRs caps)]) := by simp
  have i1 : isOf "Meter" "whole" (S ++ [O.ins "Meter" [(("its_caps" : Str), eRs caps)]]) (.ref S.length) = some (.ref S.length) := by
    unfold isOf
    dsimp only
    rw [h1]
    have : (("whole" : Str) == "its_caps") = false := by decide +kernel
    simp [List.lookup_cons, this]
  have f1 : fldD ["Meter"] "its_caps" (S ++ [O.ins "Meter" [(("its_caps" : Str), eRs caps)]]) (.ref S.length) = some (eRs caps) := by
    rw [mt_fld h1]; simp
  simp [i1, whole_ok f1]
  rw [setF_m (fs := [(("its_caps" : Str), eRs caps)]) (by simp) (by show 1 < 1000; decide)]
  simp [putD, d1, z0, z2, gTp, gCs, gFl, gNl, eV]
  rw [setF_m (fs := [(("its_caps" : Str), eRs caps), ("its_left", .ref (S.length + 1))]) (by simp) (by show 2 < 1000; decide)]
  simp [putD, d2, d3]
  rw [setF_m (fs := [(("its_caps" : Str), eRs caps), ("its_left", .ref (S.length + 1)), ("its_rides", .ref (S.length + 2))]) (by simp) (by show 3 < 1000; decide)]
  simp [putD, d4, d5, d6]
  rw [setF_m (fs := [(("its_caps" : Str), eRs caps), ("its_left", .ref (S.length + 1)), ("its_rides", .ref (S.length + 2)), ("its_charges", .ref (S.length + 3))]) (by simp) (by show 4 < 1000; decide)]
  simp [putD, d7, d8, d9, d10]
  refine ⟨S.length + 1, S.length + 2, S.length + 3, S.length + 4, ⟨by simp [fsM], by simp [Function.comp_def], by simp, by simp, by simp, by simp⟩, by omega, by omega, by omega, by omega, fun k hk => ?_⟩
  rw [List.getElem?_append_left hk]
theorem minus_nn (left : List Int) (z : Int) : ∀ (ws : List Nat), ws.Nodup → (∀ i ∈ ws, z ≤ left.getD i 0) → (∀ i, 0 ≤ left.getD i 0) → ∀ i, 0 ≤ (minus left ws z).getD i 0 := by
  intro ws
  induction ws generalizing left with
  | nil => intro _ _ h; exact h
  | cons w ws ih =>
    intro hn hz h
    rw [List.nodup_cons] at hn
    show ∀ i, 0 ≤ (minus (left.set w (left.getD w 0 - z)) ws z).getD i 0
    have gs : ∀ i, (left.set w (left.getD w 0 - z)).getD i 0 = if i = w then (if w < left.length then left.getD w 0 - z else 0) else left.getD i 0 := fun i => by
      rw [List.getD_eq_getElem?_getD, List.getD_eq_getElem?_getD, List.getElem?_set]
      by_cases hi : i = w
      · subst hi
        by_cases hl : i < left.length <;> simp [hl]
      · simp [hi, Ne.symm hi]
    refine ih _ hn.2 (fun i hi => ?_) fun i => ?_
    · rw [gs, if_neg (by rintro rfl; exact hn.1 hi)]
      exact hz i (by simp [hi])
    · rw [gs]
      split
      · split
        · have := hz w (by simp)
          omega
        · omega
      · exact h i
theorem ch_due (x : Ride) (h : ∀ i, 0 ≤ left.getD i 0) : chT caps left x = dueT caps left x := by
  unfold chT dueT held
  congr 2
  refine List.map_congr_left fun i _ => ?_
  have := h i
  omega
theorem word_none (m : Int) (x : Ride) (z : Int) (hx : 0 ≤ x.2) (h : ∀ i, 0 ≤ left.getD i 0) : wordT caps left m (.ride x z) = none ↔ z = chT caps left x := by
  rw [ch_due x h]
  obtain ⟨s1, s2, s3⟩ := due_spec (caps := caps) left x
  have s4 := due_nn (caps := caps) left x hx
  have hs : smallT caps left x z = [] ↔ ∀ y ∈ held caps left x, z ≤ y := by
    unfold smallT held
    rw [List.filter_eq_nil_iff]
    simp
  unfold wordT
  dsimp only
  by_cases c1 : z < 0
  · rw [if_pos c1]; simp; omega
  · rw [if_neg c1]
    by_cases c2 : x.2 < z
    · rw [if_pos c2]; simp; omega
    · rw [if_neg c2]
      by_cases c3 : smallT caps left x z = []
      · rw [if_neg (by simp [c3])]
        have c4 := hs.mp c3
        by_cases c5 : z < dueT caps left x
        · rw [if_pos c5]; simp; omega
        · rw [if_neg c5]
          simp
          rcases s1 with s1 | s1
          · omega
          · have := c4 _ s1; omega
      · rw [if_pos c3]
        simp
        rintro rfl
        exact c3 (hs.mpr s3)
end
end K75

namespace K75
open PySem PySem.Spec L2 Nt Nx
open PyProof.Rows hiding St
def allOk (caps : List Ride) (ls : List Ln) : Bool := (List.range ls.length).all fun i => (wAt caps ls i).isNone
structure PI (S0 : Sto) (caps : List Ride) (ls : List Ln) (i : Nat) (S' : Sto) : Prop where
  mt : ∃ l r c e rs cs es, MtAt S' S0.length l r c e caps (readT caps (ls.take i)).1 rs cs es ∧ rs.length ≤ i ∧ cs.length ≤ i ∧ es.length ≤ i ∧ S0.length < l ∧ S0.length < r ∧ S0.length < c ∧ S0.length < e
  le : S0.length < S'.length
  same : ∀ k, k < S0.length → S'[k]? = S0[k]?
  nn : ∀ j, 0 ≤ (readT caps (ls.take i)).1.getD j 0
  ok : ∀ j, j < i → wAt caps ls j = none
theorem not_all {caps : List Ride} {ls : List Ln} {i : Nat} (hi : i < ls.length) (h : wAt caps ls i ≠ none) : allOk caps ls = false := by
  unfold allOk
  rw [List.all_eq_false]
  refine ⟨i, List.mem_range.mpr hi, ?_⟩
  cases q : wAt caps ls i with
  | none => exact absurd q h
  | some v => simp
section
variable {S : Sto} {q : D → Sto → Prop} {caps : List Ride} {ls : List Ln}
theorem printed_ok (hcaps : ∀ x ∈ caps, RideOk x) (hc : caps.length ≤ 5) (hl : ls.length ≤ 10) (hls : LsOk ls) : Wp (m__law_is_printed [eRs caps, eLs ls]) S fun d S' => d = .bl (allOk caps ls) ∧ S.length ≤ S'.length ∧ ∀ k, k < S.length → S'[k]? = S[k]? := by
  unfold m__law_is_printed b__law_is_printed
  simp
  refine Wp.mono (init_m hcaps (by omega)) ?_
  rintro d S1 ⟨rfl, l, r, c, e, M, k1, k2, k3, k4, hk⟩
  simp
  rw [show eLs ls = .tup (ls.map eL) from rfl]
  simp
  have hlen1 : S.length < S1.length := (List.getElem?_eq_some_iff.mp M.at_).1
  have p0 : PI S caps ls 0 S1 := ⟨⟨l, r, c, e, [], [], [], M, by simp, by simp, by simp, k1, k2, k3, k4⟩, hlen1, hk, fun j => by
    show 0 ≤ (caps.map (·.2)).getD j 0
    rw [List.getD_eq_getElem?_getD, List.getElem?_map]
    cases hj : caps[j]? with
    | none => simp
    | some x => simp; exact (hcaps x (List.mem_of_getElem? hj)).2.1, fun j hj => by omega⟩
  refine ws_loop eL ls (fun i ρ S' => (∃ a b, ρ = [some (eRs caps), some (.tup (ls.map eL)), some (.ref S.length), some (.int (readT caps (ls.take i)).2), a, b]) ∧ PI S caps ls i S') ⟨⟨_, _, rfl⟩, p0⟩ (fun _ _ _ _ => trivial) ?_ ?_
  · rintro i x ρ S2 hx ⟨⟨a, b, rfl⟩, P⟩
    obtain ⟨⟨l, r, c, e, rs, cs, es, M, q1, q2, q3, k1, k2, k3, k4⟩, hle, hsame, hnn, hok⟩ := P
    have hil := (List.getElem?_eq_some_iff.mp hx).1
    have hw := wAt_of (caps := caps) hx
    have htk : readT caps (ls.take (i + 1)) = leadT caps (readT caps (ls.take i)) x := by rw [take_succ' hx, read_snoc]
    have hlo := hls x (List.mem_of_getElem? hx)
    have hrl := read_len (caps := caps) (ls.take i)
    rw [htk]
    have okn : wAt caps ls i = none → ∀ j, j < i + 1 → wAt caps ls j = none := fun h j hj => by
      by_cases hji : j = i
      · rw [hji]; exact h
      · exact hok j (by omega)
    generalize hst : readT caps (ls.take i) = st at *
    obtain ⟨left, m⟩ := st
    dsimp only at hrl hnn M hw ⊢
    cases x with
    | day =>
      have i1 := M.is (x := "new_day")
      simp [gL, lN, setAll, eL, atI, eq1, i1]
      refine Wp.mono (new_day_ok M (by omega)) ?_
      rintro d S3 ⟨es', g1, M', g2, g3⟩
      refine ⟨rfl, ⟨⟨_, _, _, _, _, _, _, by rw [htk]; exact M', by omega, by omega, by omega, by omega, k2, k3, k4⟩, by omega, fun k hk => ?_, fun j => ?_, okn (by rw [hw]; rfl)⟩⟩
      · rw [g3 k (by omega) (by omega) (by omega)]; exact hsame k hk
      · rw [htk]
        show 0 ≤ (caps.map (·.2)).getD j 0
        rw [List.getD_eq_getElem?_getD, List.getElem?_map]
        cases hj : caps[j]? with
        | none => simp
        | some x => simp; exact (hcaps x (List.mem_of_getElem? hj)).2.1
    | count k =>
      simp [gL, lN, setAll, eL, atI, eq2, eq7]
      by_cases hkm : k = m
      · rw [if_pos hkm]
        refine ⟨rfl, ⟨⟨_, _, _, _, _, _, _, by rw [htk]; exact M, by omega, by omega, by omega, k1, k2, k3, k4⟩, hle, hsame, fun j => by rw [htk]; exact hnn j, okn (by rw [hw]; simp [wordT, hkm])⟩⟩
      · rw [if_neg hkm]
        exact ⟨not_all hil (by rw [hw]; simp [wordT, hkm]), Nat.le_of_lt hle, hsame⟩
    | ride x z =>
      obtain ⟨g1, g2, g3, g4, _, hz⟩ := hlo
      have hx' : RideOk x := ⟨hz, g1, by omega⟩
      have i1 := M.is (x := "tap")
      simp [gL, lN, setAll, eL, atI, eq3, eq6, i1]
      refine Wp.mono (tap_ok M (by rw [hrl]) (by omega) (by omega) (by omega) x hx') ?_
      rintro d S3 ⟨rfl, M', h5, h6⟩
      simp
      have hwn := word_none (caps := caps) (left := left) m x z g1 hnn
      by_cases hkm : chT caps left x = z
      · rw [if_pos hkm]
        subst hkm
        refine ⟨rfl, ⟨⟨_, _, _, _, _, _, _, by rw [htk]; exact M', by simp; omega, by simp; omega, by omega, k1, k2, k3, k4⟩, by omega, fun k hk => ?_, fun j => ?_, okn (by rw [hw]; exact hwn.mpr rfl)⟩⟩
        · rw [h6 k (by omega) (by omega) (by omega)]; exact hsame k hk
        · rw [htk]
          refine minus_nn left _ (whoZ caps x) (who_nodup caps x) (fun w hw => ?_) hnn j
          rw [ch_due x hnn]
          have := (due_spec (caps := caps) left x).2.2 (max 0 (left.getD w 0)) (List.mem_map.mpr ⟨w, hw, rfl⟩)
          have := hnn w
          omega
      · rw [if_neg hkm]
        refine ⟨not_all hil (by rw [hw]; exact fun e => hkm (hwn.mp e).symm), by omega, fun k hk => ?_⟩
        rw [h6 k (by omega) (by omega) (by omega)]; exact hsame k hk
  · rintro ρ S2 ⟨⟨a, b, rfl⟩, P⟩
    have : allOk caps ls = true := by
      unfold allOk
      rw [List.all_eq_true]
      intro j hj
      rw [P.ok j (List.mem_range.mp hj)]
      rfl
    simp [this]
    exact ⟨Nat.le_of_lt P.le, P.same⟩
end
end K75

namespace K75
open PySem PySem.Spec L2 Nt Nx
open PyProof.Rows hiding St
def pO : Option Str → PyData
  | none => .none
  | some x => .str x
section
variable {S : Sto} {ns : List Int} {x2 x3 x4 x5 x6 x7 x8 x9 x10 x11 x12 x13 y7 y8 y9 y11 y12 : Option D} {caps : List Ride} {ls : List Ln} {things : List D} {n : Nat}
theorem toP0s_eO : ∀ ys : List (Option Str), toP0s (ys.map eO') = some (ys.map pO)
  | [] => rfl
  | y :: ys => by
    rw [List.map_cons]
    unfold toP0s
    rw [toP0s_eO ys]
    cases y <;> rfl
theorem toPs_eO : ∀ ys : List (Option Str), toPs S (ys.map eO') = some (ys.map pO)
  | [] => by simp [toPs]
  | y :: ys => by
    rw [List.map_cons]
    unfold toPs
    rw [toPs_eO ys]
    cases y <;> simp [eO', toP, pO]
theorem eq_refO {f : Bool → Bool} {ys : List (Option Str)} {d : D} (h : S[n]? = some (.lst (ys.map eO'))) : eqP f S (.ref n) d = eqP f S (.lst (ys.map eO')) d := by
  have e1 : toP S (.ref n) = some (.list (ys.map pO)) := by
    unfold toP
    rw [h]
    dsimp only
    rw [toP0s_eO]
    rfl
  have e2 : toP S (.lst (ys.map eO')) = some (.list (ys.map pO)) := by
    unfold toP
    rw [toPs_eO]
    rfl
  unfold eqP
  rw [e1, e2]
theorem mul_non (k : Nat) (h : k ≤ 100) : mulD S (.lst [.non]) (.int (k : Nat)) = some (.lst (List.replicate k .non)) := by
  unfold mulD
  dsimp only [lstD]
  rw [Option.bind_some, if_pos ⟨by omega, by omega, by rw [sizeLine_eq]; simp; omega⟩]
  simp
theorem words_iff : D.lst (wordsT caps ls ls.length) = D.lst (List.replicate ls.length D.non) ↔ allOk caps ls = true := by
  unfold allOk
  rw [List.all_eq_true]
  constructor
  · intro e j hj
    injection e with e
    have := congrArg (fun l => l[j]?) e
    have hj' := List.mem_range.mp hj
    unfold wordsT at this
    simp [hj'] at this
    cases q : wAt caps ls j with
    | none => rfl
    | some v => rw [q] at this; cases this
  · intro h
    congr 1
    unfold wordsT
    refine List.ext_getElem (by simp) fun j h1 h2 => ?_
    simp at h1
    have := h j (List.mem_range.mpr h1)
    simp
    cases q : wAt caps ls j with
    | none => rfl
    | some v => rw [q] at this; cases this
open Classical in
theorem words_eq {f : Bool → Bool} (hl : ls.length ≤ 10) (h : S[n]? = some (.lst (wordsT caps ls ls.length))) : eqP f S (.ref n) (.lst (List.replicate ls.length .non)) = some (.bl (f (allOk caps ls))) := by
  have hw : wordsT caps ls ls.length = ((List.range ls.length).map fun i => wAt caps ls i).map eO' := by
    unfold wordsT
    rw [List.map_map]
    rfl
  rw [hw] at h
  rw [eq_refO h, ← hw]
  have p1 : pln (.lst (wordsT caps ls ls.length)) = true := by
    unfold pln wordsT
    exact plns_map fun i _ => by
      cases q : wAt caps ls i with
      | none => rfl
      | some v => exact wAt_ok q
  have p2 : pln (.lst (List.replicate ls.length D.non)) = true := by
    unfold pln
    have : List.replicate ls.length D.non = (List.range ls.length).map fun _ => D.non := by simp [List.map_const']
    rw [this]
    exact plns_map fun _ _ => rfl
  have d1 : dep (.lst (wordsT caps ls ls.length)) ≤ 64 := by
    unfold dep wordsT
    have := deps_map (f := fun i => eO' (wAt caps ls i)) (xs := List.range ls.length) (n := 0) fun i _ => by cases wAt caps ls i <;> simp [eO', dep]
    omega
  have d2 : dep (.lst (List.replicate ls.length D.non)) ≤ 64 := by
    have : List.replicate ls.length D.non = (List.range ls.length).map fun _ => D.non := by simp [List.map_const']
    rw [this]
    unfold dep
    have := deps_map (f := fun _ : Nat => D.non) (xs := List.range ls.length) (n := 0) fun i _ => Nat.le_refl _
    omega
  rw [eqP_pln p1 p2 d1 d2]
  have key : decide (D.lst (wordsT caps ls ls.length) = D.lst (List.replicate ls.length D.non)) = allOk caps ls := by
    rw [Bool.eq_iff_iff, decide_eq_true_eq]
    exact words_iff
  rw [key]
theorem st7 (h : Bag S 0) (hc : caps.length ≤ 5) (hcaps : AllR 9 caps) (hl : ls.length ≤ 10) (hls : LsOk ls) (hw : S[n]? = some (.lst (wordsT caps ls ls.length))) : Ws lw7 [some (.scr ns), some (.ref 0), x2, some (eRs caps), some (eLs ls), some (.lst strangeL), some (.lst things), y7, y8, y9, some (.ref n), y11, y12, x13] S fun f S' => f = .nx [some (.scr ns), some (.ref 0), x2, some (eRs caps), some (eLs ls), some (.lst strangeL), some (.lst things), y7, y8, y9, some (.ref n), y11, y12, x13] ∧ Bag S' 0 := by
  unfold lw7
  have h1 : (1 : Nat) ≤ sizeLine := by decide
  have hb := h.lt
  have hlt := (List.getElem?_eq_some_iff.mp hw).1
  simp
  refine Wp.mono (printed_ok (fun x hx => by obtain ⟨a, b, c⟩ := hcaps x hx; exact ⟨c, a, by omega⟩) hc hl hls) ?_
  rintro d S1 ⟨rfl, hle, hk⟩
  have hU : Up S S1 := ⟨hle, hk⟩
  have hw1 : S1[n]? = some (.lst (wordsT caps ls ls.length)) := by rw [hk n hlt]; exact hw
  have e1 := words_eq (f := id) hl hw1
  simp at e1
  have e2 : ∀ a : Bool, eqP not S1 (.bl a) (.bl a) = some (.bl false) := fun a => by
    cases a <;> rfl
  simp [h1, len_Ls, mul_non ls.length (show ls.length ≤ 100 by omega), e1, show @neD = @eqP not from rfl, e2]
  exact hU.bag h
theorem body_ok (h : Bag S 0) : Ws lt0 [some (.scr ns), some (.ref 0), x2, x3, x4, x5, x6, x7, x8, x9, x10, x11, x12, x13] S fun f S' => ∃ x2 x3 x4 x5 x6 x7 x8 x9 x10 x11 x12 x13 : Option D, f = .nx [some (.scr ns), some (.ref 0), x2, x3, x4, x5, x6, x7, x8, x9, x10, x11, x12, x13] ∧ Bag S' 0 := by
  unfold lt0
  rw [ws_sSq]
  refine Ws.mono (st0 h) ?_
  rintro f S0 ⟨caps, rfl, hc, hcaps, h0⟩
  rw [Th_nx]
  unfold lt1
  rw [ws_sSq]
  refine Ws.mono (st1 h0 hc) ?_
  rintro f S1 ⟨ls, rfl, hl, hls, h1⟩
  rw [Th_nx]
  unfold lt2
  rw [ws_sSq]
  refine Ws.mono st2 ?_
  rintro f _ ⟨rfl, rfl⟩
  rw [Th_nx]
  unfold lt3
  rw [ws_sSq]
  refine Ws.mono (st3 h1 hl hls) ?_
  rintro f S3 ⟨things, rfl, hth, hok, h3⟩
  rw [Th_nx]
  unfold lt4
  rw [ws_sSq]
  refine Ws.mono (st4 h3 hl hls hth hok) ?_
  rintro f S4 ⟨y7, y8, y9, rfl, h4⟩
  rw [Th_nx]
  unfold lt5
  rw [ws_sSq]
  refine Ws.mono (st5 (caps := caps) (ls := ls) h4) ?_
  rintro f S5 ⟨n, rfl, hn, hw5, h5⟩
  rw [Th_nx]
  unfold lt6
  rw [ws_sSq]
  refine Ws.mono (st6 h5 hc hl hls hn hw5) ?_
  rintro f S6 ⟨y11, y12, rfl, hw6, h6⟩
  rw [Th_nx]
  unfold lt7
  refine Ws.mono (st7 h6 hc hcaps hl hls hw6) ?_
  rintro f S7 ⟨rfl, h7⟩
  exact ⟨_, _, _, _, _, _, _, _, _, _, _, _, rfl, h7⟩
theorem law_eq : b_law = sSq (sSet 1 (eCall 1 m__law_bag (aCons (eV 0) (aNil)))) (sSq (sFor (iRg1 (eC (.int 4))) (gL (lN 2)) lt0) (sRt (eC (.bl true)))) := rfl
theorem law_true (ns : List Int) (hn : ns.length ≤ 63) : ∃ S, m_law [.scr ns] [] = .ok (.bl true) S := by
  have main : Wp (m_law [.scr ns]) [] fun d S => d = .bl true := by
    unfold m_law
    rw [law_eq, bag_eq]
    simp [wp_iRg1]
    refine Wp.mono (bag_ok hn) ?_
    rintro d S ⟨rfl, hB⟩
    have hrg : ∀ {S : Sto} {q : Its' → Sto → Prop}, Wp (rgOf (.int 0) (.int 4)) S q = q ((List.range 4).map fun i => .int (i : Nat), fun _ => True) S := fun {S q} => wp_rg (n := 4) (by omega)
    rw [hrg]
    refine ws_loop (fun i : Nat => D.int (i : Nat)) (List.range 4) (fun i ρ S' => (∃ x2 x3 x4 x5 x6 x7 x8 x9 x10 x11 x12 x13 : Option D, ρ = [some (.scr ns), some (.ref 0), x2, x3, x4, x5, x6, x7, x8, x9, x10, x11, x12, x13]) ∧ Bag S' 0) ⟨⟨_, _, _, _, _, _, _, _, _, _, _, _, rfl⟩, hB⟩ (fun _ _ _ _ => trivial) ?_ ?_
    · rintro i k ρ S1 hk ⟨⟨x2, x3, x4, x5, x6, x7, x8, x9, x10, x11, x12, x13, rfl⟩, hB1⟩
      simp [gL, lN, setAll]
      refine Ws.mono (body_ok hB1) ?_
      rintro f S2 ⟨y2, y3, y4, y5, y6, y7, y8, y9, y10, y11, y12, y13, rfl, hB2⟩
      exact ⟨⟨y2, y3, y4, y5, y6, y7, y8, y9, y10, y11, y12, y13, rfl⟩, hB2⟩
    · rintro ρ S1 ⟨⟨x2, x3, x4, x5, x6, x7, x8, x9, x10, x11, x12, x13, rfl⟩, hB1⟩
      simp
  obtain ⟨d, S, e, rfl⟩ := Wp.iff.mp main
  exact ⟨S, e⟩
end
end K75

set_option maxHeartbeats 0
theorem PySem.Challenge.cw_nosplitpays_k75_records_of_meters_holds : PySem.Challenge.rw_nosplitpays_k75_records_of_meters.Holds := by
  exact K75.law_end K75.law_true
