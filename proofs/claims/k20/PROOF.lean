import PyProof.Rows.All
import Wide.All
import OpenK.AllK
import Wide.FinOn
import HandS.ForMost
import HandS.TupAny
import HandS.TupMul
import HandS.Deep
import HandS.DeepEq
import HandS.IsInst
import HandS.Flow
import HandS.Wide
import HandS.Strs
import PyProof.StrOps2
import HandS.Style
import HandS.Text
import KE.DataCmp
import PyProof.P3In
import HandS.Codes
import HandS.TupLen
import HandS.WordsDict
import HandS.Conv
import HandS.More
import HandS.Iter
import KE.SortData
import HandS.ExcOwn
import HandS.ExcValue
import HandS.Dict
import HandS.SetFor
import HandS.Finally
import PyProof.StrLawsFirst
import HandS.Zip
import HandS.Replace
import HandS.SetKeys
import PySem.Challenge.RW_letterrack_k20_words_that_are_formed
set_option Elab.async false
set_option linter.all false
set_option maxRecDepth 100000
set_option maxHeartbeats 4000000

/-! Lr, part 1: values as data (D), a small store (Mu), how they stand for values and heaps (rep, Rel), the judgements EV, SV over HandS. -/
namespace Lr
open PySem L2

/-! ### data -/
inductive D where
  | non | bl (b : Bool) | int (i : Int) | str (x : List Nat) | tup (ds : List D) | lst (ds : List D) | scr (ds : List D) | dic (kvs : List (D × D)) | dit (kvs : List (D × D)) | obj (c : Nat) (ds : List D) | ref (n : Nat)
abbrev Mu := List D
abbrev Ev := List (Option D)
inductive Res (α : Type) where
  | ok (a : α) | ex (c : Nat) (ds : List D) (μ : Mu) | no
def Res.bind {α β : Type} (r : Res α) (f : α → Res β) : Res β := match r with
  | .ok a => f a
  | .ex c ds μ => .ex c ds μ
  | .no => .no
/-- an expression's meaning -/
abbrev M := Ev → Mu → Res (D × Mu)
inductive Out where
  | nx (e : Ev) (μ : Mu) | rt (d : D) (μ : Mu) | bk (e : Ev) (μ : Mu) | ct (e : Ev) (μ : Mu)
abbrev MS := Ev → Mu → Res Out

def S (x : List Nat) : Str := ⟨x.toArray⟩
theorem S_cps (x : List Nat) : (S x).cps.toList = x := by simp [S]
theorem S_len (x : List Nat) : (S x).length = x.length := by simp [S, Str.length]
theorem S_inj {x y : List Nat} (h : S x = S y) : x = y := by
  have := congrArg (fun s : Str => s.cps.toList) h
  simpa [S] using this
theorem S_of (s : Str) : S s.cps.toList = s := by cases s; simp [S]

def lineN : Nat := 16777216
/-- a text's code points are such, and not too many -/
def okS (x : List Nat) : Bool := decide (x.length ≤ lineN) && x.all fun c => decide (c < 1114112)
/-- a dict's key -/
def keyOf : D → Option Key
  | .int i => some (.inl i)
  | .str x => some (.inr (S x))
  | _ => none

/-- a key that is a tuple -/
def keysOfL : List D → Option (List Key)
  | [] => some []
  | d :: ds => match keyOf d, keysOfL ds with
    | some k, some ks => some (k :: ks)
    | _, _ => none
def keyT : D → Option (List Key)
  | .tup ds => keysOfL ds
  | _ => none

/-- the names of own classes and their fields -/
structure Nm where
  cn : Nat → Str
  cf : Nat → List Str
structure Ct where
  K : PySem.W.Frag
  mg : Str → Option Value
  nm : Nm

section
variable (t : Ct) (G : Hp) (ρ : List Addr)
mutual
def rep : D → V → Prop
  | .non, v => v = .non
  | .bl b, v => v = .bl b
  | .int i, v => v = .int i
  | .str x, v => v = .str (S x) ∧ okS x = true
  | .tup ds, v => ∃ a vs, v = .ref a ∧ G a = some (.tup vs) ∧ reps ds vs
  | .lst ds, v => ∃ a vs, v = .ref a ∧ G a = some (.lst vs) ∧ reps ds vs
  | .scr ds, v => ∃ a vs, v = .ref a ∧ SqL t.K G a vs ∧ reps ds vs
  | .dic kvs, v => ∃ a ks, v = .ref a ∧ G a = some (.dK ks) ∧ repk kvs ks
  | .dit kvs, v => ∃ a ks, v = .ref a ∧ G a = some (.dT ks) ∧ repkT kvs ks
  | .obj c ds, v => ∃ a C dx vs, v = .ref a ∧ t.mg (t.nm.cn c) = some (.ref C) ∧ G a = some (.ins C dx ((t.nm.cf c).zip vs)) ∧ vs.length ≤ (t.nm.cf c).length ∧ reps ds vs
  | .ref n, v => ∃ a, ρ[n]? = some a ∧ v = .ref a
def reps : List D → List V → Prop
  | [], vs => vs = []
  | d :: ds, vs => ∃ v r, vs = v :: r ∧ rep d v ∧ reps ds r
def repk : List (D × D) → List (Key × V) → Prop
  | [], ks => ks = []
  | (k, d) :: r, ks => ∃ k' v r', ks = (k', v) :: r' ∧ keyOf k = some k' ∧ rep d v ∧ repk r r'
def repkT : List (D × D) → List (List Key × V) → Prop
  | [], ks => ks = []
  | (k, d) :: r, ks => ∃ k' v r', ks = (k', v) :: r' ∧ keyT k = some k' ∧ rep d v ∧ repkT r r'
end
end

def Pre (ρ ρ' : List Addr) : Prop := ∃ r, ρ' = ρ ++ r
theorem Pre.refl (ρ : List Addr) : Pre ρ ρ := ⟨[], by simp⟩
theorem Pre.trans {a b c : List Addr} : Pre a b → Pre b c → Pre a c := fun ⟨r, h⟩ ⟨q, k⟩ => ⟨r ++ q, by rw [k, h, List.append_assoc]⟩
theorem Pre.get {ρ ρ' : List Addr} (h : Pre ρ ρ') {n : Nat} {a : Addr} (e : ρ[n]? = some a) : ρ'[n]? = some a := by
  obtain ⟨r, rfl⟩ := h
  have := (List.getElem?_eq_some_iff.mp e).1
  rw [List.getElem?_append_left this]; exact e
theorem Pre.mem {ρ ρ' : List Addr} (h : Pre ρ ρ') {a : Addr} (e : a ∈ ρ) : a ∈ ρ' := by
  obtain ⟨r, rfl⟩ := h
  exact List.mem_append_left _ e

theorem Same.seqT {K : PySem.W.Frag} {H H' : Hp} {a : Addr} {xs : List V} (e : Same H H') (h : SqT K H a xs) : SqT K H' a xs := by
  rcases h with (h | ⟨o, h⟩) | h
  · exact .inl (.inl (e _ _ h))
  · exact .inl (.inr ⟨o, e _ _ h⟩)
  · exact .inr h

section
variable {t : Ct} {G G' : Hp} {ρ ρ' : List Addr} (hG : Same G G') (hρ : Pre ρ ρ')
include hG hρ
mutual
theorem rep.mono : ∀ (d : D) (v : V), rep t G ρ d v → rep t G' ρ' d v
  | .non, _, h => h
  | .bl _, _, h => h
  | .int _, _, h => h
  | .str _, _, h => h
  | .tup ds, _, ⟨a, vs, e, q, r⟩ => ⟨a, vs, e, hG _ _ q, reps.mono ds vs r⟩
  | .lst ds, _, ⟨a, vs, e, q, r⟩ => ⟨a, vs, e, hG _ _ q, reps.mono ds vs r⟩
  | .scr ds, _, ⟨a, vs, e, q, r⟩ => ⟨a, vs, e, Same.seq hG q, reps.mono ds vs r⟩
  | .dic kvs, _, ⟨a, ks, e, q, r⟩ => ⟨a, ks, e, hG _ _ q, repk.mono kvs ks r⟩
  | .dit kvs, _, ⟨a, ks, e, q, r⟩ => ⟨a, ks, e, hG _ _ q, repkT.mono kvs ks r⟩
  | .obj c ds, _, ⟨a, C, dx, vs, e, hm, q, l, r⟩ => ⟨a, C, dx, vs, e, hm, hG _ _ q, l, reps.mono ds vs r⟩
  | .ref n, _, ⟨a, e, q⟩ => ⟨a, hρ.get e, q⟩
theorem reps.mono : ∀ (ds : List D) (vs : List V), reps t G ρ ds vs → reps t G' ρ' ds vs
  | [], _, h => h
  | d :: ds, _, ⟨v, r, e, h1, h2⟩ => ⟨v, r, e, rep.mono d v h1, reps.mono ds r h2⟩
theorem repk.mono : ∀ (ds : List (D × D)) (vs : List (Key × V)), repk t G ρ ds vs → repk t G' ρ' ds vs
  | [], _, h => h
  | (k, d) :: ds, _, ⟨k', v, r, e, hk, h1, h2⟩ => ⟨k', v, r, e, hk, rep.mono d v h1, repk.mono ds r h2⟩
theorem repkT.mono : ∀ (ds : List (D × D)) (vs : List (List Key × V)), repkT t G ρ ds vs → repkT t G' ρ' ds vs
  | [], _, h => h
  | (k, d) :: ds, _, ⟨k', v, r, e, hk, h1, h2⟩ => ⟨k', v, r, e, hk, rep.mono d v h1, repkT.mono ds r h2⟩
end
end

section
variable {t : Ct} {G : Hp} {ρ : List Addr}
theorem reps.length : ∀ {ds : List D} {vs : List V}, reps t G ρ ds vs → vs.length = ds.length
  | [], _, h => by cases h; rfl
  | d :: ds, _, ⟨v, r, e, _, h2⟩ => by subst e; simp [reps.length h2]
theorem reps.get : ∀ {ds : List D} {vs : List V} {i : Nat} {d : D}, reps t G ρ ds vs → ds[i]? = some d → ∃ v, vs[i]? = some v ∧ rep t G ρ d v
  | [], _, i, d, _, e => by simp at e
  | d0 :: ds, _, 0, d, ⟨v, r, e, h1, h2⟩, q => by subst e; simp at q; subst q; exact ⟨v, rfl, h1⟩
  | d0 :: ds, _, i + 1, d, ⟨v, r, e, h1, h2⟩, q => by
    subst e
    obtain ⟨w, a, b⟩ := reps.get (i := i) (d := d) h2 (by simpa using q)
    exact ⟨w, by simpa using a, b⟩
theorem reps.getv {ds : List D} {vs : List V} {i : Nat} {v : V} (h : reps t G ρ ds vs) (e : vs[i]? = some v) : ∃ d, ds[i]? = some d ∧ rep t G ρ d v := by
  have l := h.length
  have hi := (List.getElem?_eq_some_iff.mp e).1
  obtain ⟨w, a, b⟩ := h.get (i := i) (d := ds[i]'(by omega)) (by simp)
  rw [a] at e; cases e
  exact ⟨_, by simp, b⟩
theorem reps.app : ∀ {ds es : List D} {vs ws : List V}, reps t G ρ ds vs → reps t G ρ es ws → reps t G ρ (ds ++ es) (vs ++ ws)
  | [], _, _, _, h, k => by cases h; exact k
  | d :: ds, es, _, ws, ⟨v, r, e, h1, h2⟩, k => by subst e; exact ⟨v, r ++ ws, rfl, h1, reps.app h2 k⟩
theorem reps.take : ∀ {ds : List D} {vs : List V} (n : Nat), reps t G ρ ds vs → reps t G ρ (ds.take n) (vs.take n)
  | _, _, 0, _ => by simp [reps]
  | [], _, n + 1, h => by cases h; simp [reps]
  | d :: ds, _, n + 1, ⟨v, r, e, h1, h2⟩ => by subst e; exact ⟨v, r.take n, rfl, h1, reps.take n h2⟩
theorem reps.drop : ∀ {ds : List D} {vs : List V} (n : Nat), reps t G ρ ds vs → reps t G ρ (ds.drop n) (vs.drop n)
  | _, _, 0, h => h
  | [], _, n + 1, h => by cases h; simp [reps]
  | d :: ds, _, n + 1, ⟨v, r, e, h1, h2⟩ => by subst e; exact reps.drop n h2
theorem reps.set {d : D} {v : V} (hd : rep t G ρ d v) : ∀ {ds : List D} {vs : List V} (i : Nat), reps t G ρ ds vs → reps t G ρ (ds.set i d) (vs.set i v)
  | [], _, _, h => by cases h; simp [reps]
  | d0 :: ds, _, 0, ⟨w, r, e, h1, h2⟩ => by subst e; exact ⟨v, r, rfl, hd, h2⟩
  | d0 :: ds, _, i + 1, ⟨w, r, e, h1, h2⟩ => by subst e; exact ⟨w, r.set i v, rfl, h1, reps.set hd i h2⟩
theorem reps.one {d : D} {v : V} (h : rep t G ρ d v) : reps t G ρ [d] [v] := ⟨v, [], rfl, h, rfl⟩
theorem reps.rev : ∀ {ds : List D} {vs : List V}, reps t G ρ ds vs → reps t G ρ ds.reverse vs.reverse
  | [], _, h => by cases h; simp [reps]
  | d :: ds, _, ⟨v, r, e, h1, h2⟩ => by
    subst e
    rw [List.reverse_cons, List.reverse_cons]
    exact reps.app (reps.rev h2) (reps.one h1)
end

/-! ### a state: slots, store, heap -/
def cell (t : Ct) (G : Hp) (ρ : List Addr) (H : Hp) (a : Addr) : D → Prop
  | .lst ds => ∃ vs, H a = some (.lst vs) ∧ reps t G ρ ds vs
  | .dic kvs => ∃ ks, H a = some (.dK ks) ∧ repk t G ρ kvs ks
  | .dit kvs => ∃ ks, H a = some (.dT ks) ∧ repkT t G ρ kvs ks
  | .obj c ds => ∃ C dx vs, t.mg (t.nm.cn c) = some (.ref C) ∧ H a = some (.ins C dx ((t.nm.cf c).zip vs)) ∧ vs.length ≤ (t.nm.cf c).length ∧ reps t G ρ ds vs
  | _ => False
theorem cell.mono {t : Ct} {G G' H H' : Hp} {ρ ρ' : List Addr} {a : Addr} (hG : Same G G') (hρ : Pre ρ ρ') (hH : ∀ o, H a = some o → H' a = some o) : ∀ {d : D}, cell t G ρ H a d → cell t G' ρ' H' a d
  | .lst ds, ⟨vs, e, r⟩ => ⟨vs, hH _ e, reps.mono hG hρ _ _ r⟩
  | .dic kvs, ⟨ks, e, r⟩ => ⟨ks, hH _ e, repk.mono hG hρ _ _ r⟩
  | .dit kvs, ⟨ks, e, r⟩ => ⟨ks, hH _ e, repkT.mono hG hρ _ _ r⟩
  | .obj c ds, ⟨C, dx, vs, m, e, l, r⟩ => ⟨C, dx, vs, m, hH _ e, l, reps.mono hG hρ _ _ r⟩
theorem cell.some {t : Ct} {G H : Hp} {ρ : List Addr} {a : Addr} : ∀ {d : D}, cell t G ρ H a d → ∃ o, H a = some o ∧ (∀ xs, o ≠ .tup xs) ∧ ∀ ob u, o ≠ .frz ob u
  | .lst ds, ⟨vs, e, r⟩ => ⟨_, e, (fun _ h => by cases h), (fun _ _ h => by cases h)⟩
  | .dic kvs, ⟨ks, e, r⟩ => ⟨_, e, (fun _ h => by cases h), (fun _ _ h => by cases h)⟩
  | .dit kvs, ⟨ks, e, r⟩ => ⟨_, e, (fun _ h => by cases h), (fun _ _ h => by cases h)⟩
  | .obj c ds, ⟨C, dx, vs, m, e, l, r⟩ => ⟨_, e, (fun _ h => by cases h), (fun _ _ h => by cases h)⟩

structure Rel (t : Ct) (G : Hp) (ρ : List Addr) (env : Ev) (μ : Mu) (σ : St) (H : Hp) : Prop where
  sub : Same G H
  nd : ρ.Nodup
  gn : ∀ a ∈ ρ, G a = none
  len : ρ.length = μ.length
  cells : ∀ (n : Nat) a d, ρ[n]? = some a → μ[n]? = some d → cell t G ρ H a d
  slen : σ.length = env.length
  slots : ∀ (i : Nat) d, env[i]? = some (some d) → ∃ v, σ[i]? = some (some v) ∧ rep t G ρ d v

/-- how a state goes on: what was there stands, but for the own cells -/
structure Ext (G : Hp) (ρ : List Addr) (H : Hp) (G' : Hp) (ρ' : List Addr) (H' : Hp) : Prop where
  sub : Same G G'
  pre : Pre ρ ρ'
  frame : ∀ a o, H a = some o → a ∉ ρ → H' a = some o
  fresh : ∀ a ∈ ρ', a ∈ ρ ∨ H a = none
  there : ∀ a, H a ≠ none → H' a ≠ none
  gf : ∀ a o, G' a = some o → G a = some o ∨ H a = none ∨ (a ∉ ρ ∧ H a = some o ∧ ∃ vs, o = .tup vs)
theorem Ext.refl {G H : Hp} {ρ : List Addr} : Ext G ρ H G ρ H := ⟨Same.refl _, Pre.refl _, fun _ _ h _ => h, fun _ h => .inl h, fun _ h => h, fun _ _ h => .inl h⟩
theorem Ext.trans {G G1 G2 H H1 H2 : Hp} {ρ ρ1 ρ2 : List Addr} (a : Ext G ρ H G1 ρ1 H1) (b : Ext G1 ρ1 H1 G2 ρ2 H2) : Ext G ρ H G2 ρ2 H2 where
  sub := a.sub.trans b.sub
  pre := a.pre.trans b.pre
  frame := fun c o h n => b.frame c o (a.frame c o h n) fun q => by
    rcases a.fresh c q with z | z
    · exact n z
    · rw [h] at z; cases z
  fresh := fun c q => by
    rcases b.fresh c q with z | z
    · exact a.fresh c z
    · by_cases e : H c = none
      · exact .inr e
      · exact absurd z (a.there c e)
  there := fun c h => b.there c (a.there c h)
  gf := fun c o q => by
    rcases b.gf c o q with z | z | ⟨z1, z2, z3⟩
    · exact a.gf c o z
    · by_cases e : H c = none
      · exact .inr (.inl e)
      · exact absurd z (a.there c e)
    · have n : c ∉ ρ := fun y => z1 (a.pre.mem y)
      cases e : H c with
      | none => exact .inr (.inl rfl)
      | some o' =>
        have y := a.frame c o' e n
        rw [z2] at y
        cases y
        exact .inr (.inr ⟨n, rfl, z3⟩)
theorem Ext.rep {t : Ct} {G G' H H' : Hp} {ρ ρ' : List Addr} (e : Ext G ρ H G' ρ' H') {d : D} {v : V} (h : rep t G ρ d v) : Lr.rep t G' ρ' d v := rep.mono e.sub e.pre d v h
theorem Ext.reps {t : Ct} {G G' H H' : Hp} {ρ ρ' : List Addr} (e : Ext G ρ H G' ρ' H') {d : List D} {v : List V} (h : reps t G ρ d v) : Lr.reps t G' ρ' d v := reps.mono e.sub e.pre d v h

section
variable {t : Ct} {G H : Hp} {ρ : List Addr} {env : Ev} {μ : Mu} {σ : St}
/-- a tuple (or another thing that never changes) is laid -/
theorem Rel.laidG (R : Rel t G ρ env μ σ H) {p : Addr} (o : HO) (hp : H p = none) : Rel t (upd G p o) ρ env μ σ (upd H p o) ∧ Ext G ρ H (upd G p o) ρ (upd H p o) := by
  have gp : G p = none := Same.free R.sub hp
  have sG : Same G (upd G p o) := fun b u e => by rw [upd_ne (ne_of_none e gp)]; exact e
  have sH : Same H (upd H p o) := fun b u e => by rw [upd_ne (ne_of_none e hp)]; exact e
  have hpρ : ∀ a ∈ ρ, a ≠ p := fun a ha z => by
    subst z
    obtain ⟨n, hn, e⟩ := List.getElem_of_mem ha
    obtain ⟨ob, q, _⟩ := (R.cells n a (μ[n]'(by rw [← R.len]; exact hn)) (by rw [List.getElem?_eq_getElem hn, e]) (by simp)).some
    rw [hp] at q; cases q
  refine ⟨⟨fun b u e => ?_, R.nd, fun a ha => ?_, R.len, fun n a d e1 e2 => (R.cells n a d e1 e2).mono sG (Pre.refl _) (sH a), R.slen, fun i d e => ?_⟩, ⟨sG, Pre.refl _, fun a u e _ => sH a u e, fun _ h => .inl h, fun a h => ?_, fun a u e => ?_⟩⟩
  · by_cases hb : b = p
    · subst hb; rw [upd_same] at e ⊢; exact e
    · rw [upd_ne hb] at e ⊢; exact R.sub b u e
  · rw [upd_ne (hpρ a ha)]; exact R.gn a ha
  · obtain ⟨v, h1, h2⟩ := R.slots i d e
    exact ⟨v, h1, rep.mono sG (Pre.refl _) _ _ h2⟩
  · by_cases hb : a = p
    · subst hb; rw [upd_same]; simp
    · rw [upd_ne hb]; exact h
  · by_cases hb : a = p
    · subst hb; exact .inr (.inl hp)
    · rw [upd_ne hb] at e; exact .inl e
theorem Rel.ofCell (R : Rel t G ρ env μ σ H) {n : Nat} {d : D} (h : μ[n]? = some d) : ∃ a, ρ[n]? = some a ∧ cell t G ρ H a d := by
  have hn : n < μ.length := (List.getElem?_eq_some_iff.mp h).1
  have hn' : n < ρ.length := by rw [R.len]; exact hn
  exact ⟨ρ[n], by simp, R.cells n _ d (by simp) h⟩
theorem Rel.ρH (R : Rel t G ρ env μ σ H) {a : Addr} (ha : a ∈ ρ) : H a ≠ none := by
  obtain ⟨n, hn, e⟩ := List.getElem_of_mem ha
  obtain ⟨ob, q, _⟩ := (R.cells n a (μ[n]'(by rw [← R.len]; exact hn)) (by rw [List.getElem?_eq_getElem hn, e]) (by simp)).some
  rw [q]; simp
theorem Rel.ρT (R : Rel t G ρ env μ σ H) {a : Addr} (ha : a ∈ ρ) {vs : List V} : H a ≠ some (.tup vs) := fun z => by
  obtain ⟨n, hn, e⟩ := List.getElem_of_mem ha
  obtain ⟨ob, q, q2, _⟩ := (R.cells n a (μ[n]'(by rw [← R.len]; exact hn)) (by rw [List.getElem?_eq_getElem hn, e]) (by simp)).some
  rw [z] at q; cases q
  exact q2 _ rfl
/-- tuples that are there become frozen -/
theorem Rel.tupG (R : Rel t G ρ env μ σ H) {a : Addr} {vs : List V} (ha : H a = some (.tup vs)) : Rel t (upd G a (.tup vs)) ρ env μ σ H ∧ Ext G ρ H (upd G a (.tup vs)) ρ H := by
  have na : a ∉ ρ := fun z => R.ρT z ha
  have sG : Same G (upd G a (.tup vs)) := fun b u e => by
    by_cases hb : b = a
    · subst hb
      have := R.sub b u e
      rw [ha] at this; cases this
      rw [upd_same]
    · rw [upd_ne hb]; exact e
  refine ⟨⟨fun b u e => ?_, R.nd, fun b hb => ?_, R.len, fun n b d e1 e2 => (R.cells n b d e1 e2).mono sG (Pre.refl _) fun _ h => h, R.slen, fun i d e => ?_⟩, ⟨sG, Pre.refl _, fun _ _ e _ => e, fun _ h => .inl h, fun _ h => h, fun b u e => ?_⟩⟩
  · by_cases hb : b = a
    · subst hb; rw [upd_same] at e; cases e; exact ha
    · rw [upd_ne hb] at e; exact R.sub b u e
  · rw [upd_ne (fun z => na (by rw [← z]; exact hb))]; exact R.gn b hb
  · obtain ⟨v, h1, h2⟩ := R.slots i d e
    exact ⟨v, h1, rep.mono sG (Pre.refl _) _ _ h2⟩
  · by_cases hb : b = a
    · subst hb; rw [upd_same] at e; cases e; exact .inr (.inr ⟨na, ha, _, rfl⟩)
    · rw [upd_ne hb] at e; exact .inl e
/-- a new cell -/
theorem Rel.newCell (R : Rel t G ρ env μ σ H) {p : Addr} {o : HO} {d : D} (hp : H p = none) (hc : cell t G (ρ ++ [p]) (upd H p o) p d) :
    Rel t G (ρ ++ [p]) env (μ ++ [d]) σ (upd H p o) ∧ Ext G ρ H G (ρ ++ [p]) (upd H p o) ∧ (ρ ++ [p])[μ.length]? = some p := by
  have gp : G p = none := Same.free R.sub hp
  have sH : Same H (upd H p o) := fun b u e => by rw [upd_ne (ne_of_none e hp)]; exact e
  have pr : Pre ρ (ρ ++ [p]) := ⟨[p], rfl⟩
  have hpρ : p ∉ ρ := fun z => R.ρH z hp
  refine ⟨⟨R.sub.trans sH, ?_, fun a ha => ?_, by simp [R.len], fun n a d' e1 e2 => ?_, R.slen, fun i d e => ?_⟩, ⟨Same.refl _, pr, fun a u e _ => sH a u e, fun a h => ?_, fun a h => ?_, fun _ _ h => .inl h⟩, ?_⟩
  · rw [List.nodup_append]
    exact ⟨R.nd, by simp, fun a ha b hb z => by simp at hb; subst hb; subst z; exact hpρ ha⟩
  · rcases List.mem_append.mp ha with h | h
    · exact R.gn a h
    · simp at h; subst h; exact gp
  · by_cases hn : n < μ.length
    · rw [List.getElem?_append_left (by rw [R.len]; exact hn)] at e1
      rw [List.getElem?_append_left hn] at e2
      exact (R.cells n a d' e1 e2).mono (Same.refl _) pr (sH a)
    · have : n = μ.length := by
        have := (List.getElem?_eq_some_iff.mp e2).1
        simp at this; omega
      subst this
      rw [← R.len] at e1
      simp at e1 e2
      subst e1 e2
      exact hc
  · obtain ⟨v, h1, h2⟩ := R.slots i d e
    exact ⟨v, h1, rep.mono (Same.refl _) pr _ _ h2⟩
  · rcases List.mem_append.mp h with h | h
    · exact .inl h
    · simp at h; subst h; exact .inr hp
  · by_cases hb : a = p
    · subst hb; rw [upd_same]; simp
    · rw [upd_ne hb]; exact h
  · rw [← R.len]; simp
/-- a cell is changed -/
theorem Rel.setCell (R : Rel t G ρ env μ σ H) {n : Nat} {a : Addr} {o : HO} {d : D} (hn : ρ[n]? = some a) (hc : cell t G ρ (upd H a o) a d) :
    Rel t G ρ env (μ.set n d) σ (upd H a o) ∧ Ext G ρ H G ρ (upd H a o) := by
  have ha : a ∈ ρ := List.mem_of_getElem? hn
  have ga : G a = none := R.gn a ha
  refine ⟨⟨fun b u e => ?_, R.nd, R.gn, by simp [R.len], fun m b d' e1 e2 => ?_, R.slen, R.slots⟩, ⟨Same.refl _, Pre.refl _, fun b u e hb => ?_, fun _ h => .inl h, fun b h => ?_, fun _ _ h => .inl h⟩⟩
  · rw [upd_ne (ne_of_none e ga)]; exact R.sub b u e
  · by_cases hm : m = n
    · subst hm
      rw [hn] at e1; cases e1
      have : m < μ.length := by rw [← R.len]; exact (List.getElem?_eq_some_iff.mp hn).1
      rw [List.getElem?_set_self this] at e2; cases e2
      exact hc
    · rw [List.getElem?_set_ne (Ne.symm hm)] at e2
      have nb : b ≠ a := fun z => by
        subst z
        exact hm (nodup_ixA R.nd e1 hn)
      exact (R.cells m b d' e1 e2).mono (Same.refl _) (Pre.refl _) fun u e => by rw [upd_ne nb]; exact e
  · rw [upd_ne (fun z => hb (by rw [z]; exact ha))]; exact e
  · by_cases hb : b = a
    · subst hb; rw [upd_same]; simp
    · rw [upd_ne hb]; exact h
where
  nodup_ixA {N : List Addr} (hN : N.Nodup) {i j : Nat} {x : Addr} (a : N[i]? = some x) (b : N[j]? = some x) : i = j := by
    obtain ⟨h1, e1⟩ := List.getElem?_eq_some_iff.mp a
    obtain ⟨h2, e2⟩ := List.getElem?_eq_some_iff.mp b
    exact (List.getElem_inj hN).mp (e1.trans e2.symm)
/-- a slot is stored -/
theorem Rel.setSlot (R : Rel t G ρ env μ σ H) {i : Nat} {d : D} {v : V} (h : rep t G ρ d v) : Rel t G ρ (env.set i (some d)) μ (σ.set i (some v)) H :=
  ⟨R.sub, R.nd, R.gn, R.len, R.cells, by simp [R.slen], fun j d' e => by
    by_cases hj : j = i
    · subst hj
      by_cases hl : j < env.length
      · rw [List.getElem?_set_self hl] at e
        cases e
        exact ⟨v, by rw [List.getElem?_set_self (by rw [R.slen]; exact hl)], h⟩
      · rw [List.getElem?_eq_none (by simp; omega)] at e; cases e
    · rw [List.getElem?_set_ne (Ne.symm hj)] at e
      obtain ⟨w, h1, h2⟩ := R.slots j d' e
      exact ⟨w, by rw [List.getElem?_set_ne (Ne.symm hj)]; exact h1, h2⟩⟩
/-- other slots, knowing less -/
theorem Rel.reslot (R : Rel t G ρ env μ σ H) {env' : Ev} {σ' : St} (l : σ'.length = env'.length) (h : ∀ (i : Nat) d, env'[i]? = some (some d) → ∃ v, σ'[i]? = some (some v) ∧ rep t G ρ d v) : Rel t G ρ env' μ σ' H :=
  ⟨R.sub, R.nd, R.gn, R.len, R.cells, l, h⟩
end
end Lr

/-! Lr, part 2: the judgements and the rules of expressions. -/
namespace Lr
open PySem L2

/-- what is wanted of an exception, at the slots -/
abbrev XW := Value → Option Addr → St → Hp → Prop
abbrev ct (nm : Nm) (X : Cx) : Ct := ⟨X.K, X.mg, nm⟩
def Po {α : Type} (r : Res α) (k : α → Prop) (x : Nat → List D → Mu → Prop) : Prop := match r with
  | .ok a => k a
  | .ex c ds μ => x c ds μ
  | .no => False
theorem Po.bind {α β : Type} {r : Res α} {f : α → Res β} {k : β → Prop} {x : Nat → List D → Mu → Prop} (h : Po (r.bind f) k x) : Po r (fun a => Po (f a) k x) x := by
  cases r <;> exact h
theorem Po.imp {α : Type} {r : Res α} {k k' : α → Prop} {x x' : Nat → List D → Mu → Prop} (h : Po r k x) (hk : ∀ a, k a → k' a) (hx : ∀ c ds μ, x c ds μ → x' c ds μ) : Po r k' x' := by
  cases r with
  | ok a => exact hk a h
  | ex c ds μ => exact hx c ds μ h
  | no => exact h
def xfs (t : Ct) (G : Hp) (ρ : List Addr) (H : Hp) (c : Nat) (ds : List D) (dx : Option Addr) : Prop :=
  (ds = [] ∧ dx = none) ∨ ∃ d vs, dx = some d ∧ H d = some (.xd ((t.nm.cf c).zip vs)) ∧ vs.length ≤ (t.nm.cf c).length ∧ reps t G ρ ds vs
section
variable (t : Ct) (W : XW) (env : Ev) (σ : St) (G : Hp) (ρ : List Addr) (H : Hp)
def KX (c : Nat) (ds : List D) (μ' : Mu) : Prop := ∀ C dx H' ρ' G', t.mg (t.nm.cn c) = some (.ref C) → Ext G ρ H G' ρ' H' → Rel t G' ρ' env μ' σ H' → xfs t G' ρ' H' c ds dx → W (.ref C) dx σ H'
def KE (Q : VK) (r : D × Mu) : Prop := ∀ v H' ρ' G', Ext G ρ H G' ρ' H' → Rel t G' ρ' env r.2 σ H' → rep t G' ρ' r.1 v → Q v H'
def KT (Q : Bool → Hp → Prop) (r : Bool × Mu) : Prop := ∀ H' ρ' G', Ext G ρ H G' ρ' H' → Rel t G' ρ' env r.2 σ H' → Q r.1 H'
def KA (Q : List V → Hp → Prop) (r : List D × Mu) : Prop := ∀ vs H' ρ' G', Ext G ρ H G' ρ' H' → Rel t G' ρ' env r.2 σ H' → reps t G' ρ' r.1 vs → Q vs H'
end
section
variable {t : Ct} {W : XW} {env : Ev} {σ : St} {G G' : Hp} {ρ ρ' : List Addr} {H H' : Hp} (e : Ext G ρ H G' ρ' H')
include e
theorem KX.re {c ds μ} (h : KX t W env σ G ρ H c ds μ) : KX t W env σ G' ρ' H' c ds μ := fun C dx H2 ρ2 G2 m x => h C dx H2 ρ2 G2 m (e.trans x)
theorem KE.re {Q r} (h : KE t env σ G ρ H Q r) : KE t env σ G' ρ' H' Q r := fun v H2 ρ2 G2 x => h v H2 ρ2 G2 (e.trans x)
theorem KT.re {Q r} (h : KT t env σ G ρ H Q r) : KT t env σ G' ρ' H' Q r := fun H2 ρ2 G2 x => h H2 ρ2 G2 (e.trans x)
theorem KA.re {Q r} (h : KA t env σ G ρ H Q r) : KA t env σ G' ρ' H' Q r := fun vs H2 ρ2 G2 x => h vs H2 ρ2 G2 (e.trans x)
theorem Po.reE {Q} {r : Res (D × Mu)} (h : Po r (KE t env σ G ρ H Q) (KX t W env σ G ρ H)) : Po r (KE t env σ G' ρ' H' Q) (KX t W env σ G' ρ' H') := h.imp (fun _ => KE.re e) (fun _ _ _ => KX.re e)
theorem Po.reT {Q} {r : Res (Bool × Mu)} (h : Po r (KT t env σ G ρ H Q) (KX t W env σ G ρ H)) : Po r (KT t env σ G' ρ' H' Q) (KX t W env σ G' ρ' H') := h.imp (fun _ => KT.re e) (fun _ _ _ => KX.re e)
theorem Po.reA {Q} {r : Res (List D × Mu)} (h : Po r (KA t env σ G ρ H Q) (KX t W env σ G ρ H)) : Po r (KA t env σ G' ρ' H' Q) (KX t W env σ G' ρ' H') := h.imp (fun _ => KA.re e) (fun _ _ _ => KX.re e)
end

/-! ### the readings of all -/
def wpE (X : Cx) (e : Expr) : TE := fun σ H Q => ∀ pins s, Inv X pins σ H s → wpAny (model X.prog X.w) X.A (eval e X.env) (EP X pins σ Q) X.xe s
def wpT (X : Cx) (e : Expr) : TT := fun σ H Q => ∀ pins s, Inv X pins σ H s → wpAny (model X.prog X.w) X.A (isTrue e X.env (eval e X.env)) (TP X pins σ Q) X.xe s
def wpW (X : Cx) (e : Expr) : TT := fun σ H Q => ∀ wh pins s, Inv X pins σ H s → wpAny (model X.prog X.w) X.A (isTrue e X.env wh) (TP X pins σ Q) X.xe s
def wpA (X : Cx) (es : List Expr) : TA := fun σ H Q => ∀ pos pins s, Inv X pins σ H s → wpAny (model X.prog X.w) X.A (spliced (backTo pos (starEach es X.env))) (AP X pins σ Q) X.xe s
section
variable {X : Cx} {e : Expr} {es : List Expr}
theorem pe_wp : PE X e (wpE X e) := ⟨fun pins s σ H Q I h => h pins s I⟩
theorem pt_wp : PT X e (wpT X e) := ⟨fun pins s σ H Q I h => h pins s I⟩
theorem pw_wp : PW X e (wpW X e) := ⟨fun wh pins s σ H Q I h => h wh pins s I⟩
theorem pa_wp : PA X es (wpA X es) := ⟨fun pos pins s σ H Q I h => h pos pins s I⟩
theorem to_e {t : TE} (p : PE X e t) {σ H Q} (h : t σ H Q) : wpE X e σ H Q := fun pins s I => p.run pins s σ H Q I h
theorem to_t {t : TT} (p : PT X e t) {σ H Q} (h : t σ H Q) : wpT X e σ H Q := fun pins s I => p.run pins s σ H Q I h
theorem to_w {t : TT} (p : PW X e t) {σ H Q} (h : t σ H Q) : wpW X e σ H Q := fun wh pins s I => p.run wh pins s σ H Q I h
theorem to_a {t : TA} (p : PA X es t) {σ H Q} (h : t σ H Q) : wpA X es σ H Q := fun pos pins s I => p.run pos pins s σ H Q I h
end

/-! ### the judgements -/
structure EV (nm : Nm) (X : Cx) (W : XW) (e : Expr) (m : M) : Prop where
  run : ∀ env μ σ H ρ G Q, Rel (ct nm X) G ρ env μ σ H → Po (m env μ) (KE (ct nm X) env σ G ρ H Q) (KX (ct nm X) W env σ G ρ H) → wpE X e σ H Q
abbrev MT := Ev → Mu → Res (Bool × Mu)
structure TV (nm : Nm) (X : Cx) (W : XW) (e : Expr) (m : MT) : Prop where
  run : ∀ env μ σ H ρ G Q, Rel (ct nm X) G ρ env μ σ H → Po (m env μ) (KT (ct nm X) env σ G ρ H Q) (KX (ct nm X) W env σ G ρ H) → wpT X e σ H Q
structure WV (nm : Nm) (X : Cx) (W : XW) (e : Expr) (m : MT) : Prop where
  run : ∀ env μ σ H ρ G Q, Rel (ct nm X) G ρ env μ σ H → Po (m env μ) (KT (ct nm X) env σ G ρ H Q) (KX (ct nm X) W env σ G ρ H) → wpW X e σ H Q
abbrev MA := Ev → Mu → Res (List D × Mu)
structure AV (nm : Nm) (X : Cx) (W : XW) (es : List Expr) (m : MA) : Prop where
  len : ∀ env μ r, m env μ = .ok r → r.1.length = es.length
  run : ∀ env μ σ H ρ G Q, Rel (ct nm X) G ρ env μ σ H → Po (m env μ) (KA (ct nm X) env σ G ρ H Q) (KX (ct nm X) W env σ G ρ H) → wpA X es σ H Q

theorem lineN_eq : sizeLine = lineN := sizeLine_eq
/-! ### the meanings -/
def cK (d : D) : M := fun _ μ => .ok (d, μ)
def cV (i : Nat) : M := fun env μ => match env[i]? with
  | some (some d) => .ok (d, μ)
  | _ => .no
abbrev F1 := D → Mu → Res (D × Mu)
abbrev F2 := D → D → Mu → Res (D × Mu)
def cU (f : F1) (a : M) : M := fun env μ => (a env μ).bind fun x => f x.1 x.2
def cB (f : F2) (a b : M) : M := fun env μ => (a env μ).bind fun x => (b env x.2).bind fun y => f x.1 y.1 y.2
def cNil : MA := fun _ μ => .ok ([], μ)
def cCons (a : M) (r : MA) : MA := fun env μ => (a env μ).bind fun x => (r env x.2).bind fun y => .ok (x.1 :: y.1, y.2)
/-- a function of all arguments -/
abbrev FN := List D → Mu → Res (D × Mu)
def cF (f : FN) (a : MA) : M := fun env μ => (a env μ).bind fun x => f x.1 x.2
def boolOf (r : D × Mu) : Res (Bool × Mu) := match r.1 with
  | .bl b => .ok (b, r.2)
  | _ => .no
def tVal (a : M) : MT := fun env μ => (a env μ).bind boolOf
def tAndD (a b : MT) : MT := fun env μ => (a env μ).bind fun x => if x.1 then b env x.2 else .ok (false, x.2)
def tOrD (a b : MT) : MT := fun env μ => (a env μ).bind fun x => if x.1 then .ok (true, x.2) else b env x.2
def tNotD (a : MT) : MT := fun env μ => (a env μ).bind fun x => .ok (!x.1, x.2)
def cAndD (a b : M) : M := fun env μ => (a env μ).bind fun x => match x.1 with
  | .bl true => b env x.2
  | .bl false => .ok (.bl false, x.2)
  | _ => .no
def cOrD (a b : M) : M := fun env μ => (a env μ).bind fun x => match x.1 with
  | .bl true => .ok (.bl true, x.2)
  | .bl false => b env x.2
  | _ => .no
def cIf (c : MT) (a b : M) : M := fun env μ => (c env μ).bind fun x => if x.1 then a env x.2 else b env x.2
def cTup (a : MA) : M := fun env μ => (a env μ).bind fun x => if x.1.length ≤ lineN then .ok (.tup x.1, x.2) else .no
/-- a new list: frozen, or a cell -/
def mkL (b : Bool) (ds : List D) (μ : Mu) : D × Mu := bif b then (.ref μ.length, μ ++ [.lst ds]) else (.lst ds, μ)
def cLst (b : Bool) (a : MA) : M := fun env μ => (a env μ).bind fun x => if x.1.length ≤ lineN then .ok (mkL b x.1 x.2) else .no

/-! ### operations by values: what a rule of HandS asks follows from the meaning -/
/-- f's meaning over data, r the reading by values -/
def Op1 (nm : Nm) (X : Cx) (W : XW) (f : F1) (r : V → Hp → VK → Prop) : Prop := ∀ env μ σ H ρ G Q d v, Rel (ct nm X) G ρ env μ σ H → rep (ct nm X) G ρ d v →
  Po (f d μ) (KE (ct nm X) env σ G ρ H Q) (KX (ct nm X) W env σ G ρ H) → r v H Q
def Op2 (nm : Nm) (X : Cx) (W : XW) (f : F2) (r : R2) : Prop := ∀ env μ σ H ρ G Q d1 d2 v1 v2, Rel (ct nm X) G ρ env μ σ H → rep (ct nm X) G ρ d1 v1 → rep (ct nm X) G ρ d2 v2 →
  Po (f d1 d2 μ) (KE (ct nm X) env σ G ρ H Q) (KX (ct nm X) W env σ G ρ H) → r v1 v2 H Q
def OpN (nm : Nm) (X : Cx) (W : XW) (f : FN) (r : List V → Hp → VK → Prop) : Prop := ∀ env μ σ H ρ G Q ds vs, Rel (ct nm X) G ρ env μ σ H → reps (ct nm X) G ρ ds vs →
  Po (f ds μ) (KE (ct nm X) env σ G ρ H Q) (KX (ct nm X) W env σ G ρ H) → r vs H Q

section
variable {nm : Nm} {X : Cx} {W : XW} {a b c : Expr} {es rest : List Expr} {pos : Pos} {m ma mb : M} {mt mu : MT} {ms : MA}
theorem EV.tE {t : TE} (h : EV nm X W a m) : ∀ env μ σ H ρ G Q, Rel (ct nm X) G ρ env μ σ H → Po (m env μ) (KE (ct nm X) env σ G ρ H Q) (KX (ct nm X) W env σ G ρ H) → wpE X a σ H Q := h.run
/-- two expressions and an operation: the common part -/
theorem bin_run (ha : EV nm X W a ma) (hb : EV nm X W b mb) {f : F2} {r : R2} (hf : Op2 nm X W f r) {env μ σ H ρ G Q} (R : Rel (ct nm X) G ρ env μ σ H)
    (P : Po (cB f ma mb env μ) (KE (ct nm X) env σ G ρ H Q) (KX (ct nm X) W env σ G ρ H)) : tOp r (wpE X a) (wpE X b) σ H Q := by
  refine ha.run env μ σ H ρ G _ R ((Po.bind P).imp (fun x hx v H1 ρ1 G1 e1 R1 r1 => ?_) fun _ _ _ h => h)
  refine hb.run env x.2 σ H1 ρ1 G1 _ R1 ((Po.bind (Po.imp hx (fun _ h => h.re e1) fun _ _ _ h => h.re e1)).imp (fun y hy w H2 ρ2 G2 e2 R2 r2 => ?_) fun _ _ _ h => h)
  exact hf env y.2 σ H2 ρ2 G2 Q x.1 y.1 v w R2 (e2.rep r1) r2 (Po.reE e2 hy)
theorem un_run (ha : EV nm X W a ma) {f : F1} {r : V → Hp → VK → Prop} (hf : Op1 nm X W f r) {env μ σ H ρ G Q} (R : Rel (ct nm X) G ρ env μ σ H)
    (P : Po (cU f ma env μ) (KE (ct nm X) env σ G ρ H Q) (KX (ct nm X) W env σ G ρ H)) : tUn r (wpE X a) σ H Q := by
  refine ha.run env μ σ H ρ G _ R ((Po.bind P).imp (fun x hx v H1 ρ1 G1 e1 R1 r1 => ?_) fun _ _ _ h => h)
  exact hf env x.2 σ H1 ρ1 G1 Q x.1 v R1 r1 (Po.reE e1 hx)
theorem args_run (ha : AV nm X W es ms) {f : FN} {r : List V → Hp → VK → Prop} (hf : OpN nm X W f r) {env μ σ H ρ G Q} (R : Rel (ct nm X) G ρ env μ σ H)
    (P : Po (cF f ms env μ) (KE (ct nm X) env σ G ρ H Q) (KX (ct nm X) W env σ G ρ H)) : wpA X es σ H fun vs H1 => r vs H1 Q := by
  refine ha.run env μ σ H ρ G _ R ((Po.bind P).imp (fun x hx vs H1 ρ1 G1 e1 R1 r1 => ?_) fun _ _ _ h => h)
  exact hf env x.2 σ H1 ρ1 G1 Q x.1 vs R1 r1 (Po.reE e1 hx)

/-! names, constants -/
theorem ev_of {m : M} {t : TE} (p : PE X a t) (h : ∀ env μ σ H ρ G Q, Rel (ct nm X) G ρ env μ σ H → Po (m env μ) (KE (ct nm X) env σ G ρ H Q) (KX (ct nm X) W env σ G ρ H) → t σ H Q) : EV nm X W a m :=
  ⟨fun env μ σ H ρ G Q R P => to_e p (h env μ σ H ρ G Q R P)⟩
theorem ev_var (i : Nat) {x : Str} (hN : X.N[i]? = some x := by rfl) (hv : Vis X.env.scope x := by first | exact Or.inl rfl | exact Or.inr (Or.inl rfl) | exact Or.inr (Or.inr rfl)) (hd : (x == ("__debug__" : Str)) = false := by decide)
    (hcd : (x == ("__classdict__" : Str)) = false := by decide) : EV nm X W (.Name x pos) (cV i) := ev_of (pe_var hN hv hd hcd) fun env μ σ H ρ G Q R P => by
  unfold cV at P
  split at P
  · rename_i d e
    obtain ⟨v, h1, h2⟩ := R.slots i d e
    exact ⟨v, h1, P v H ρ G .refl R h2⟩
  · exact P.elim
theorem ev_int {i j} : EV nm X W (.Constant (.int i) j pos) (cK (.int i)) := ev_of pe_int fun env μ σ H ρ G Q R P => P _ H ρ G .refl R rfl
theorem ev_bl {i j} : EV nm X W (.Constant (.bool i) j pos) (cK (.bl i)) := ev_of pe_bl fun env μ σ H ρ G Q R P => P _ H ρ G .refl R rfl
theorem ev_non {j} : EV nm X W (.Constant .none j pos) (cK .non) := ev_of pe_non fun env μ σ H ρ G Q R P => P _ H ρ G .refl R rfl
theorem ev_str {x : Str} {j} (y : List Nat) (h : x.cps.toList = y := by decide +kernel) (ho : okS y = true := by decide +kernel) : EV nm X W (.Constant (.str x) j pos) (cK (.str y)) := ev_of pe_str fun env μ σ H ρ G Q R P => by
  have e : x = S y := by rw [← h, S_of]
  exact P _ H ρ G .refl R ⟨by rw [e], ho⟩
/-- a constant of the module -/
theorem ev_glob {x : Str} {u : Value} {d : D} {v : V} (hg : Gl X x) (hm : X.mg x = some u) (r : RelV v u) (hr : ∀ G ρ, rep (ct nm X) G ρ d v) (hd : (x == ("__debug__" : Str)) = false := by decide) : EV nm X W (.Name x pos) (cK d) :=
  ev_of (pe_glob hg hm r hd) fun env μ σ H ρ G Q R P => P _ H ρ G .refl R (hr G ρ)

/-! operators -/
theorem ev_bin {op : Operator} {f : F2} {r : R2} (ho : OpR X (binaryOp op) r) (hf : Op2 nm X W f r) (ha : EV nm X W a ma) (hb : EV nm X W b mb) : EV nm X W (.BinOp a op b pos) (cB f ma mb) :=
  ev_of (pe_op ho pe_wp pe_wp) fun env μ σ H ρ G Q R P => bin_run ha hb hf R P
theorem ev_un {op : UnaryOp} {f : F1} {r : V → Hp → VK → Prop} (ho : UnR X (unaryOp op) r) (hf : Op1 nm X W f r) (ha : EV nm X W a ma) : EV nm X W (.UnaryOp op a pos) (cU f ma) :=
  ev_of (pe_un ho pe_wp) fun env μ σ H ρ G Q R P => un_run ha hf R P
theorem ev_cmp {op : CmpOp} {f : F2} {r : R2} (ho : OpR X (compareOp op) r) (hf : Op2 nm X W f r) (ha : EV nm X W a ma) (hb : EV nm X W b mb) (hm : behindInMarks op b = false := by first | exact nomark _ | rfl) :
    EV nm X W (.Compare a [op] [b] pos) (cB f ma mb) :=
  ev_of (pe_cmpR ho pe_wp pe_wp hm) fun env μ σ H ρ G Q R P => bin_run ha hb hf R P

/-! tests -/
theorem tv_cmp {op : CmpOp} {f : F2} {r : R2} (ho : OpR X (compareOp op) r) (hf : Op2 nm X W f r) (ha : EV nm X W a ma) (hb : EV nm X W b mb) (hm : behindInMarks op b = false := by first | exact nomark _ | rfl) :
    TV nm X W (.Compare a [op] [b] pos) (tVal (cB f ma mb)) := ⟨fun env μ σ H ρ G Q R P => to_t (pt_cmpR ho pe_wp pe_wp hm) (by
  refine bin_run ha hb hf R (Po.imp (Po.bind P) (fun x hx v H' ρ' G' e R' r' => ?_) fun _ _ _ h => h)
  obtain ⟨d, μ'⟩ := x
  cases d <;> first
    | exact hx.elim
    | (cases r'; exact ⟨_, rfl, hx H' ρ' G' e R'⟩))⟩
theorem tv_val (ha : EV nm X W a ma) (he : ∀ whole, isTrue a X.env whole = (do let v ← whole; standAt a.pos; holding [v] (truthy v)) := by intro _; rfl) : TV nm X W a (tVal ma) :=
  ⟨fun env μ σ H ρ G Q R P => to_t (pt_val pe_wp he) (by
  refine ha.run env μ σ H ρ G _ R (Po.imp (Po.bind P) (fun x hx v H' ρ' G' e R' r' => ?_) fun _ _ _ h => h)
  obtain ⟨d, μ'⟩ := x
  cases d <;> first
    | exact hx.elim
    | (cases r'; exact ⟨_, rfl, hx H' ρ' G' e R'⟩))⟩
theorem tv_not (ha : TV nm X W a mt) : TV nm X W (.UnaryOp .Not a pos) (tNotD mt) := ⟨fun env μ σ H ρ G Q R P => to_t (pt_not pt_wp) (by
  exact ha.run env μ σ H ρ G _ R (Po.imp (Po.bind P) (fun x hx H' ρ' G' e R' => hx H' ρ' G' e R') fun _ _ _ h => h))⟩
theorem tv_w (h : WV nm X W a mt) : TV nm X W a mt := ⟨fun env μ σ H ρ G Q R P => fun pins s I => h.run env μ σ H ρ G Q R P _ pins s I⟩
theorem wv_and1 (ha : TV nm X W a mt) : WV nm X W (.BoolOp .And [a] pos) mt := ⟨fun env μ σ H ρ G Q R P => to_w (pw_and1 pt_wp) (ha.run env μ σ H ρ G Q R P)⟩
theorem wv_or1 (ha : TV nm X W a mt) : WV nm X W (.BoolOp .Or [a] pos) mt := ⟨fun env μ σ H ρ G Q R P => to_w (pw_or1 pt_wp) (ha.run env μ σ H ρ G Q R P)⟩
theorem wv_and (ha : TV nm X W a mt) (hb : WV nm X W (.BoolOp .And (b :: rest) pos) mu) : WV nm X W (.BoolOp .And (a :: b :: rest) pos) (tAndD mt mu) := ⟨fun env μ σ H ρ G Q R P => to_w (pw_and pt_wp pw_wp) (by
  refine ha.run env μ σ H ρ G _ R (Po.imp (Po.bind P) (fun x hx H' ρ' G' e R' => ?_) fun _ _ _ h => h)
  obtain ⟨c, μ'⟩ := x
  cases c with
  | true => exact iteT (hb.run env μ' σ H' ρ' G' Q R' (Po.reT e hx))
  | false => exact iteF (hx H' ρ' G' e R'))⟩
theorem wv_or (ha : TV nm X W a mt) (hb : WV nm X W (.BoolOp .Or (b :: rest) pos) mu) : WV nm X W (.BoolOp .Or (a :: b :: rest) pos) (tOrD mt mu) := ⟨fun env μ σ H ρ G Q R P => to_w (pw_or pt_wp pw_wp) (by
  refine ha.run env μ σ H ρ G _ R (Po.imp (Po.bind P) (fun x hx H' ρ' G' e R' => ?_) fun _ _ _ h => h)
  obtain ⟨c, μ'⟩ := x
  cases c with
  | true => exact iteT (hx H' ρ' G' e R')
  | false => exact iteF (hb.run env μ' σ H' ρ' G' Q R' (Po.reT e hx)))⟩
/-! and, or as values (bools) -/
theorem ev_one {op} (ha : EV nm X W a ma) : EV nm X W (.BoolOp op [a] pos) ma := ev_of (pe_one pe_wp) fun env μ σ H ρ G Q R P => ha.run env μ σ H ρ G Q R P
theorem ev_and (ha : EV nm X W a ma) (hb : EV nm X W (.BoolOp .And (b :: rest) pos) mb) : EV nm X W (.BoolOp .And (a :: b :: rest) pos) (cAndD ma mb) := ev_of (pe_and pe_wp pe_wp) fun env μ σ H ρ G Q R P => by
  refine ha.run env μ σ H ρ G _ R (Po.imp (Po.bind P) (fun x hx v H' ρ' G' e R' r' => ?_) fun _ _ _ h => h)
  obtain ⟨d, μ'⟩ := x
  cases d with
  | bl k =>
    cases r'
    cases k with
    | true => exact ⟨true, rfl, iteT (hb.run env μ' σ H' ρ' G' Q R' (Po.reE e hx))⟩
    | false => exact ⟨false, rfl, iteF (hx _ H' ρ' G' e R' rfl)⟩
  | _ => exact hx.elim
theorem ev_or (ha : EV nm X W a ma) (hb : EV nm X W (.BoolOp .Or (b :: rest) pos) mb) : EV nm X W (.BoolOp .Or (a :: b :: rest) pos) (cOrD ma mb) := ev_of (pe_or pe_wp pe_wp) fun env μ σ H ρ G Q R P => by
  refine ha.run env μ σ H ρ G _ R (Po.imp (Po.bind P) (fun x hx v H' ρ' G' e R' r' => ?_) fun _ _ _ h => h)
  obtain ⟨d, μ'⟩ := x
  cases d with
  | bl k =>
    cases r'
    cases k with
    | true => exact ⟨true, rfl, iteT (hx _ H' ρ' G' e R' rfl)⟩
    | false => exact ⟨false, rfl, iteF (hb.run env μ' σ H' ρ' G' Q R' (Po.reE e hx))⟩
  | _ => exact hx.elim
def dNot (d : D) (μ : Mu) : Res (D × Mu) := match d with
  | .bl b => .ok (.bl (!b), μ)
  | _ => .no
theorem ev_not (ha : EV nm X W a ma) : EV nm X W (.UnaryOp .Not a pos) (cU dNot ma) := ev_of (pe_not pe_wp) fun env μ σ H ρ G Q R P => by
  refine ha.run env μ σ H ρ G _ R (Po.imp (Po.bind P) (fun x hx v H' ρ' G' e R' r' => ?_) fun _ _ _ h => h)
  obtain ⟨d, μ'⟩ := x
  cases d with
  | bl k =>
    cases r'
    exact ⟨k, rfl, hx _ H' ρ' G' e R' rfl⟩
  | _ => exact hx.elim
theorem ev_ifExp (hc : TV nm X W c mt) (ha : EV nm X W a ma) (hb : EV nm X W b mb) : EV nm X W (.IfExp c a b pos) (cIf mt ma mb) := ev_of (pe_ifExp pt_wp pe_wp pe_wp) fun env μ σ H ρ G Q R P => by
  refine hc.run env μ σ H ρ G _ R (Po.imp (Po.bind P) (fun x hx H' ρ' G' e R' => ?_) fun _ _ _ h => h)
  obtain ⟨k, μ'⟩ := x
  cases k with
  | true => exact iteT (ha.run env μ' σ H' ρ' G' Q R' (Po.reE e hx))
  | false => exact iteF (hb.run env μ' σ H' ρ' G' Q R' (Po.reE e hx))

/-! arguments, displays -/
theorem cCons_len {n : Nat} (hl : ∀ env μ r, ms env μ = .ok r → r.1.length = n) {env μ r} (h : cCons ma ms env μ = .ok r) : r.1.length = n + 1 := by
  unfold cCons at h
  cases h1 : ma env μ with
  | ok x =>
    rw [h1] at h
    cases h2 : ms env x.2 with
    | ok y =>
      simp only [Res.bind, h2] at h
      cases h
      rw [List.length_cons, hl env x.2 y h2]
    | ex => simp only [Res.bind, h2] at h; cases h
    | no => simp only [Res.bind, h2] at h; cases h
  | ex => rw [h1] at h; cases h
  | no => rw [h1] at h; cases h
theorem av_nil : AV nm X W [] cNil := ⟨(fun env μ r h => by cases h; rfl), fun env μ σ H ρ G Q R P => to_a pa_nil (P [] H ρ G .refl R rfl)⟩
theorem av_cons (ha : EV nm X W a ma) (hr : AV nm X W es ms) (hs : starEach (a :: es) X.env = (false, eval a X.env) :: starEach es X.env := by rfl) : AV nm X W (a :: es) (cCons ma ms) :=
  ⟨fun env μ r h => cCons_len hr.len h, fun env μ σ H ρ G Q R P => to_a (pa_cons pe_wp pa_wp hs) (by
  refine ha.run env μ σ H ρ G _ R (Po.imp (Po.bind P) (fun x hx v H1 ρ1 G1 e1 R1 r1 => ?_) fun _ _ _ h => h)
  refine hr.run env x.2 σ H1 ρ1 G1 _ R1 (Po.imp (Po.bind (Po.reA e1 hx)) (fun y hy vs H2 ρ2 G2 e2 R2 r2 => ?_) fun _ _ _ h => h)
  exact hy (v :: vs) H2 ρ2 G2 e2 R2 ⟨v, vs, rfl, e2.rep r1, r2⟩)⟩
theorem ev_tup {x1} (h : AV nm X W es ms) : EV nm X W (.Tuple es x1 pos) (cTup ms) := ev_of (pe_tup pa_wp) fun env μ σ H ρ G Q R P => by
  refine h.run env μ σ H ρ G _ R (Po.imp (Po.bind P) (fun x hx vs H1 ρ1 G1 e1 R1 r1 => ?_) fun _ _ _ h => h)
  split at hx
  · rename_i hz
    refine ⟨by rw [r1.length, lineN_eq]; exact hz, fun p hp => ?_⟩
    obtain ⟨R2, e2⟩ := R1.laidG (.tup vs) hp
    exact hx _ _ ρ1 _ (e1.trans e2) R2 ⟨p, vs, rfl, upd_same, e2.reps r1⟩
  · exact hx.elim
theorem new_lst {env : Ev} {μ : Mu} {σ : St} {H G : Hp} {ρ : List Addr} (R : Rel (ct nm X) G ρ env μ σ H) {ds : List D} {vs : List V} {Q : VK} (r : reps (ct nm X) G ρ ds vs) (P : KE (ct nm X) env σ G ρ H Q (.ref μ.length, μ ++ [.lst ds])) : ∀ p, H p = none → Q (.ref p) (upd H p (.lst vs)) := fun p hp => by
  obtain ⟨R2, e2, g⟩ := R.newCell (o := .lst vs) (d := .lst ds) hp ⟨vs, upd_same, reps.mono (Same.refl _) ⟨[p], rfl⟩ _ _ r⟩
  exact P _ _ _ _ e2 R2 ⟨p, g, rfl⟩
theorem new_L {env : Ev} {μ : Mu} {σ : St} {H G : Hp} {ρ : List Addr} {b : Bool} (R : Rel (ct nm X) G ρ env μ σ H) {ds : List D} {vs : List V} {Q : VK} (r : reps (ct nm X) G ρ ds vs) (P : KE (ct nm X) env σ G ρ H Q (mkL b ds μ)) : ∀ p, H p = none → Q (.ref p) (upd H p (.lst vs)) := by
  cases b with
  | true => exact new_lst R r P
  | false =>
    intro p hp
    obtain ⟨R2, e2⟩ := R.laidG (.lst vs) hp
    exact P _ _ ρ _ e2 R2 ⟨p, vs, rfl, upd_same, e2.reps r⟩
theorem new_tup {env : Ev} {μ : Mu} {σ : St} {H G : Hp} {ρ : List Addr} (R : Rel (ct nm X) G ρ env μ σ H) {ds : List D} {vs : List V} {Q : VK} (r : reps (ct nm X) G ρ ds vs) (P : KE (ct nm X) env σ G ρ H Q (.tup ds, μ)) : ∀ p, H p = none → Q (.ref p) (upd H p (.tup vs)) := fun p hp => by
  obtain ⟨R2, e2⟩ := R.laidG (.tup vs) hp
  exact P _ _ ρ _ e2 R2 ⟨p, vs, rfl, upd_same, e2.reps r⟩
theorem ev_lst (fl : Bool) (h : AV nm X W es ms) : EV nm X W (.List es pos) (cLst fl ms) := ev_of (pe_lst pa_wp) fun env μ σ H ρ G Q R P => by
  refine h.run env μ σ H ρ G _ R (Po.imp (Po.bind P) (fun x hx vs H1 ρ1 G1 e1 R1 r1 => ?_) fun _ _ _ h => h)
  split at hx
  · rename_i hz
    exact ⟨by rw [r1.length, lineN_eq]; exact hz, new_L R1 r1 (KE.re e1 hx)⟩
  · exact hx.elim
end
end Lr

/-! Lr, part 3: operations by values: numbers, texts, tuples, lists; comparisons; items, slices; built-ins. -/
namespace Lr
open PySem L2

/-- a list that may be read -/
def lof (d : D) (μ : Mu) : Option (List D) := match d with
  | .lst ds => some ds
  | .scr ds => some ds
  | .ref n => match μ[n]? with
    | some (.lst ds) => some ds
    | _ => none
  | _ => none
def lofT (d : D) (μ : Mu) : Option (List D) := match d with
  | .lst ds => some ds
  | .ref n => match μ[n]? with
    | some (.lst ds) => some ds
    | _ => none
  | _ => none
section
variable {nm : Nm} {X : Cx} {W : XW} {env : Ev} {μ : Mu} {σ : St} {H G : Hp} {ρ : List Addr}
theorem lof_ok (R : Rel (ct nm X) G ρ env μ σ H) {d : D} {v : V} {ds : List D} (h : rep (ct nm X) G ρ d v) (e : lof d μ = some ds) : ∃ a vs, v = .ref a ∧ SqL X.K H a vs ∧ reps (ct nm X) G ρ ds vs := by
  unfold lof at e
  split at e
  · cases e
    obtain ⟨a, vs, e1, q, r⟩ := h
    exact ⟨a, vs, e1, SqL.of (R.sub _ _ q), r⟩
  · cases e
    obtain ⟨a, vs, e1, q, r⟩ := h
    exact ⟨a, vs, e1, R.sub.seq q, r⟩
  · split at e
    · rename_i n ds' e2
      cases e
      obtain ⟨a, e3, e4⟩ := h
      obtain ⟨b, e5, vs, e6, r⟩ := R.ofCell e2
      rw [e3] at e5; cases e5
      exact ⟨a, vs, e4, SqL.of e6, r⟩
    · cases e
  · cases e
/-- a list that is this def's own -/
theorem cell_lst (R : Rel (ct nm X) G ρ env μ σ H) {n : Nat} {v : V} {ds : List D} (h : rep (ct nm X) G ρ (.ref n) v) (e : μ[n]? = some (.lst ds)) :
    ∃ a vs, v = .ref a ∧ ρ[n]? = some a ∧ H a = some (.lst vs) ∧ reps (ct nm X) G ρ ds vs := by
  obtain ⟨a, e3, e4⟩ := h
  obtain ⟨b, e5, vs, e6, r⟩ := R.ofCell e
  rw [e3] at e5; cases e5
  exact ⟨a, vs, e4, e3, e6, r⟩
/-- a list that is tracked -/
theorem lofT_ok (R : Rel (ct nm X) G ρ env μ σ H) {d : D} {v : V} {ds : List D} (h : rep (ct nm X) G ρ d v) (e : lofT d μ = some ds) : ∃ a vs, v = .ref a ∧ H a = some (.lst vs) ∧ reps (ct nm X) G ρ ds vs := by
  unfold lofT at e
  split at e
  · cases e
    obtain ⟨a, vs, e1, q, r⟩ := h
    exact ⟨a, vs, e1, R.sub _ _ q, r⟩
  · split at e
    · rename_i n ds' e2
      cases e
      obtain ⟨a, vs, e1, _, e2, r⟩ := cell_lst R h e2
      exact ⟨a, vs, e1, e2, r⟩
    · cases e
  · cases e
theorem lofT_lof {d : D} {μ : Mu} {ds : List D} (e : lofT d μ = some ds) : lof d μ = some ds := by
  unfold lofT at e
  unfold lof
  split at e
  · exact e
  · exact e
  · cases e
theorem tup_H (R : Rel (ct nm X) G ρ env μ σ H) {v : V} {ds : List D} (h : rep (ct nm X) G ρ (.tup ds) v) : ∃ a vs, v = .ref a ∧ SqT X.K H a vs ∧ reps (ct nm X) G ρ ds vs := by
  obtain ⟨a, vs, e, q, r⟩ := h
  exact ⟨a, vs, e, SqT.of (R.sub _ _ q), r⟩
theorem tup_T (R : Rel (ct nm X) G ρ env μ σ H) {v : V} {ds : List D} (h : rep (ct nm X) G ρ (.tup ds) v) : ∃ a vs, v = .ref a ∧ H a = some (.tup vs) ∧ reps (ct nm X) G ρ ds vs := by
  obtain ⟨a, vs, e, q, r⟩ := h
  exact ⟨a, vs, e, R.sub _ _ q, r⟩
end

/-! ### + - * // % ** -/
def okMul (i j : Int) : Prop := (-(2 ^ 64) < i ∧ i < 2 ^ 64) ∨ (-(2 ^ 64) < j ∧ j < 2 ^ 64) ∨ i.natAbs.log2 + j.natAbs.log2 < 1000000
instance {i j} : Decidable (okMul i j) := by unfold okMul; infer_instance
def okDiv (j : Int) : Prop := 0 < j ∧ j.natAbs.log2 < 9000
instance {j} : Decidable (okDiv j) := by unfold okDiv; infer_instance
theorem okS_len {x : List Nat} (h : okS x = true) : x.length ≤ lineN := by unfold okS at h; simp at h; exact h.1
theorem okS_mem {x : List Nat} (h : okS x = true) {c : Nat} (hc : c ∈ x) : c < 1114112 := by unfold okS at h; simp at h; exact h.2 c hc
theorem okS_mk {x : List Nat} (h1 : x.length ≤ lineN) (h2 : ∀ c ∈ x, c < 1114112) : okS x = true := by unfold okS; simp; exact ⟨h1, h2⟩
theorem okS_app {x y : List Nat} (h1 : okS x = true) (h2 : okS y = true) (h : x.length + y.length ≤ lineN) : okS (x ++ y) = true :=
  okS_mk (by rw [List.length_append]; exact h) fun c hc => (List.mem_append.mp hc).elim (okS_mem h1) (okS_mem h2)
theorem okS_sub {x y : List Nat} (h1 : okS x = true) (h : y.length ≤ x.length) (hs : ∀ c ∈ y, c ∈ x) : okS y = true := okS_mk (Nat.le_trans h (okS_len h1)) fun c hc => okS_mem h1 (hs c hc)
def dAdd (fl : Bool) : F2 := fun a b μ => match a, b with
  | .int i, .int j => .ok (.int (i + j), μ)
  | .int i, .bl k => .ok (.int (i + PyProof.Rows.b2i k), μ)
  | .str x, .str y => if x.length + y.length ≤ lineN then .ok (.str (x ++ y), μ) else .no
  | .tup xs, .tup ys => if xs.length + ys.length ≤ lineN then .ok (.tup (xs ++ ys), μ) else .no
  | a, b => match lofT a μ, lofT b μ with
    | some xs, some ys => if xs.length + ys.length ≤ lineN then .ok (mkL fl (xs ++ ys) μ) else .no
    | _, _ => .no
def dSub : F2 := fun a b μ => match a, b with
  | .int i, .int j => .ok (.int (i - j), μ)
  | _, _ => .no
def dMul (fl : Bool) : F2 := fun a b μ => match a, b with
  | .int i, .int j => if okMul i j then .ok (.int (i * j), μ) else .no
  | .str x, .int k => if -(2 ^ 63) ≤ k ∧ k < 2 ^ 63 ∧ x.length * k.toNat ≤ lineN then .ok (.str (List.replicate k.toNat x).flatten, μ) else .no
  | .tup xs, .int k => if xs ≠ [] ∧ 2 ≤ k ∧ k ≤ 1000 ∧ xs.length ≤ 1000 then .ok (.tup (List.replicate k.toNat xs).flatten, μ) else .no
  | a, .int k => match lofT a μ with
    | some xs => if -(2 ^ 63) ≤ k ∧ k < 2 ^ 63 ∧ xs.length * k.toNat ≤ lineN then .ok (mkL fl (List.replicate k.toNat xs).flatten μ) else .no
    | _ => .no
  | _, _ => .no
def dDiv : F2 := fun a b μ => match a, b with
  | .int i, .int j => if okDiv j then .ok (.int (i / j), μ) else .no
  | _, _ => .no
def dMod : F2 := fun a b μ => match a, b with
  | .int i, .int j => if 0 < j then .ok (.int (i % j), μ) else .no
  | _, _ => .no
def dPow : F2 := fun a b μ => match a, b with
  | .int i, .int j => if 0 ≤ j ∧ j ≤ 1000000 ∧ i.natAbs < 2 ^ 64 then .ok (.int (i ^ j.toNat), μ) else .no
  | _, _ => .no
theorem S_rep (x : List Nat) (k : Nat) : (⟨(List.replicate k x.toArray).foldl (· ++ ·) #[]⟩ : Str) = S (List.replicate k x).flatten := by
  have h : ∀ (k : Nat) (acc : List Nat), (List.replicate k x.toArray).foldl (· ++ ·) acc.toArray = (acc ++ (List.replicate k x).flatten).toArray := by
    intro k
    induction k with
    | zero => intro acc; simp
    | succ k ih =>
      intro acc
      rw [List.replicate_succ, List.foldl_cons, List.replicate_succ, List.flatten_cons]
      have : acc.toArray ++ x.toArray = (acc ++ x).toArray := by simp
      rw [this, ih, List.append_assoc]
  have := h k []
  simp only [List.nil_append] at this
  show (⟨_⟩ : Str) = ⟨_⟩
  rw [← this]
theorem op_mulS {X : Cx} : OpR X (binaryOp .Mult) (fun x y H Q => ∃ i k, x = .str (S i) ∧ y = .int k ∧ -(2 ^ 63) ≤ k ∧ k < 2 ^ 63 ∧ i.length * k.toNat ≤ sizeLine ∧ Q (.str (S (List.replicate k.toNat i).flatten)) H) := by
  intro pins s σ H x y v u Q I rx ry h
  obtain ⟨i, k, rfl, rfl, h1, h2, hz, q⟩ := h
  obtain ⟨t, rfl⟩ := rx
  obtain ⟨t', rfl⟩ := ry
  refine P.mul_str ?_ (fun a b => ?_) (fun a b => ?_) ?_
  · rw [decide_eq_false (by omega), decide_eq_false (by omega)]; rfl
  · rw [S_len]
    have hk : (k.toNat : Int) = k := Int.toNat_of_nonneg (by omega)
    have hz' : i.length * k.toNat ≤ 16777216 := hz
    have hz2 : (i.length : Int) * k ≤ 16777216 := by
      rw [← hk, ← Int.natCast_mul]; exact Int.ofNat_le.mpr hz'
    intro hc
    have hc' : (2 ^ 63 - 1) / k < (i.length : Int) := hc
    rw [Int.ediv_lt_iff_lt_mul (by omega)] at hc'
    omega
  · rw [S_len]
    unfold Builtin.Str.tooLong
    exact decide_eq_false (by omega)
  · split
    · rename_i hk
      have : k.toNat = 0 := by omega
      rw [this] at q
      exact ⟨by decide, .str (S []), H, I.tok _, ⟨_, rfl⟩, q⟩
    · split
      · rename_i h0 h3
        simp only [Bool.or_eq_true, beq_iff_eq, S_len] at h3
        rcases h3 with h3 | h3
        · subst h3
          refine ⟨.str (S i), H, I, ⟨_, rfl⟩, ?_⟩
          simpa using q
        · have : i = [] := List.eq_nil_of_length_eq_zero h3
          subst this
          refine ⟨.str (S []), H, I, ⟨_, rfl⟩, ?_⟩
          have e : (List.replicate k.toNat ([] : List Nat)).flatten = [] := by simp
          rw [e] at q
          exact q
      · have e := S_rep i k.toNat
        have e2 : (⟨(List.replicate k.toNat (S i).cps).foldl (· ++ ·) #[]⟩ : Str) = S (List.replicate k.toNat i).flatten := e
        rw [e2]
        refine ⟨?_, .str (S (List.replicate k.toNat i).flatten), H, I.tok _, ⟨s.toks, rfl⟩, q⟩
        have : (List.replicate k.toNat i).flatten.length = k.toNat * i.length := by simp
        rw [S_len, this, Nat.mul_comm]
        exact hz
def dNeg : F1 := fun a μ => match a with
  | .int i => .ok (.int (-i), μ)
  | _ => .no
section
variable {nm : Nm} {X : Cx} {W : XW}
def rAddA (X : Cx) : R2 := fun x y H Q => (((rI0 fun i j => .int (i + j)) x y H Q ∨ (∃ i k, x = .int i ∧ y = .bl k ∧ Q (.int (i + PyProof.Rows.b2i k)) H)) ∨ (∃ i j, x = .str i ∧ y = .str j ∧ i.length + j.length ≤ sizeLine ∧ Q (.str (i ++ j)) H)) ∨ rCatA X.K x y H Q ∨ rCat x y H Q
theorem opr_add : OpR X (binaryOp .Add) (rAddA X) := ((op_add.or op_add_ib).or op_add_str).or (op_catA.or op_cat)
theorem S_app (x y : List Nat) : S x ++ S y = S (x ++ y) := by
  show (⟨x.toArray ++ y.toArray⟩ : Str) = ⟨(x ++ y).toArray⟩
  simp
theorem op2_add {fl : Bool} : Op2 nm X W (dAdd fl) (rAddA X) := by
  intro env μ σ H ρ G Q d1 d2 v1 v2 R r1 r2 P
  unfold dAdd at P
  split at P
  · cases r1; cases r2
    exact .inl (.inl (.inl ⟨_, _, rfl, rfl, P _ H ρ G .refl R rfl⟩))
  · cases r1; cases r2
    exact .inl (.inl (.inr ⟨_, _, rfl, rfl, P _ H ρ G .refl R rfl⟩))
  · obtain ⟨rfl, o1⟩ := r1
    obtain ⟨rfl, o2⟩ := r2
    split at P
    · rename_i hz
      refine .inl (.inr ⟨_, _, rfl, rfl, ?_, P _ H ρ G .refl R ⟨by rw [S_app], okS_app o1 o2 hz⟩⟩)
      rw [S_len, S_len, lineN_eq]; exact hz
    · exact P.elim
  · rename_i xs ys
    split at P
    · rename_i hz
      have r1' := r1
      have r2' := r2
      obtain ⟨a, vs, rfl, q1, k1⟩ := tup_H R r1
      obtain ⟨b, ws, rfl, q2, k2⟩ := tup_H R r2
      refine .inr (.inl ⟨a, b, vs, ws, rfl, rfl, q1, q2, by rw [k1.length, k2.length, lineN_eq]; exact hz, fun e => ?_, fun e1 e2 => ?_, fun e1 e2 => new_tup R (k1.app k2) P⟩)
      · have e2 : xs = [] := List.eq_nil_of_length_eq_zero (by rw [← k1.length, e]; rfl)
        subst e2
        exact P _ H ρ G .refl R r2'
      · have e3 : ys = [] := List.eq_nil_of_length_eq_zero (by rw [← k2.length, e2]; rfl)
        subst e3
        refine P _ H ρ G .refl R ?_
        show rep _ _ _ (.tup (xs ++ [])) _
        rw [List.append_nil]
        exact r1'
    · exact P.elim
  · split at P
    · rename_i xs ys e1 e2
      split at P
      · rename_i hz
        obtain ⟨a, vs, rfl, h1, q1⟩ := lofT_ok R r1 e1
        obtain ⟨b, ws, rfl, h2, q2⟩ := lofT_ok R r2 e2
        exact .inr (.inr ⟨a, b, vs, ws, rfl, rfl, h1, h2, by rw [q1.length, q2.length, lineN_eq]; exact hz, new_L R (q1.app q2) P⟩)
      · exact P.elim
    · exact P.elim
theorem op2_sub : Op2 nm X W dSub (rI0 fun i j => .int (i - j)) := by
  intro env μ σ H ρ G Q d1 d2 v1 v2 R r1 r2 P
  unfold dSub at P
  split at P
  · cases r1; cases r2
    exact ⟨_, _, rfl, rfl, P _ H ρ G .refl R rfl⟩
  · exact P.elim
def rMulS : R2 := fun x y H Q => ∃ i k, x = .str (S i) ∧ y = .int k ∧ -(2 ^ 63) ≤ k ∧ k < 2 ^ 63 ∧ i.length * k.toNat ≤ sizeLine ∧ Q (.str (S (List.replicate k.toNat i).flatten)) H
def rMulA (X : Cx) : R2 := fun x y H Q => (((rI CMul fun i j => .int (i * j)) x y H Q ∨ (rI CMulW fun i j => .int (i * j)) x y H Q) ∨ rRep x y H Q) ∨ rMulS x y H Q ∨ rRepT X.K x y H Q
theorem opr_mul : OpR X (binaryOp .Mult) (rMulA X) := ((op_mul.or op_mulW).or op_rep).or (op_mulS.or op_repT)
theorem reps_flat {t : Ct} {G : Hp} {ρ : List Addr} {ds : List D} {vs : List V} (h : reps t G ρ ds vs) : ∀ k : Nat, reps t G ρ (List.replicate k ds).flatten (List.replicate k vs).flatten
  | 0 => by simp [reps]
  | k + 1 => by
    rw [List.replicate_succ, List.replicate_succ, List.flatten_cons, List.flatten_cons]
    exact h.app (reps_flat h k)
theorem op2_mul {fl : Bool} : Op2 nm X W (dMul fl) (rMulA X) := by
  intro env μ σ H ρ G Q d1 d2 v1 v2 R r1 r2 P
  unfold dMul at P
  split at P
  · cases r1; cases r2
    split at P
    · rename_i hz
      have p := P _ H ρ G .refl R rfl
      rcases hz with h | h | h
      · exact .inl (.inl (.inl ⟨_, _, rfl, rfl, .inl h, p⟩))
      · exact .inl (.inl (.inl ⟨_, _, rfl, rfl, .inr h, p⟩))
      · exact .inl (.inl (.inr ⟨_, _, rfl, rfl, h, p⟩))
    · exact P.elim
  · cases r2
    obtain ⟨rfl, o1⟩ := r1
    rename_i x k
    split at P
    · rename_i hz
      refine .inr (.inl ⟨x, k, rfl, rfl, hz.1, hz.2.1, by rw [lineN_eq]; exact hz.2.2, P _ H ρ G .refl R ⟨rfl, okS_mk ?_ fun c hc => ?_⟩⟩)
      · have : (List.replicate k.toNat x).flatten.length = k.toNat * x.length := by simp
        rw [this, Nat.mul_comm]; exact hz.2.2
      · obtain ⟨l, h1, h2⟩ := List.mem_flatten.mp hc
        rw [(List.mem_replicate.mp h1).2] at h2
        exact okS_mem o1 h2
    · exact P.elim
  · cases r2
    rename_i xs k
    split at P
    · rename_i hz
      obtain ⟨a, vs, rfl, q1, k1⟩ := tup_H R r1
      refine .inr (.inr ⟨a, k, vs, rfl, rfl, q1, fun e => hz.1 ?_, hz.2.1, hz.2.2.1, by rw [k1.length]; exact hz.2.2.2, new_tup R (reps_flat k1 _) P⟩)
      exact List.eq_nil_of_length_eq_zero (by rw [← k1.length, e]; rfl)
    · exact P.elim
  · cases r2
    split at P
    · rename_i xs e1
      split at P
      · rename_i hz
        obtain ⟨a, vs, rfl, h1, q1⟩ := lofT_ok R r1 e1
        exact .inl (.inr ⟨a, _, vs, rfl, rfl, h1, hz.1, hz.2.1, by rw [q1.length, lineN_eq]; exact hz.2.2, new_L R (reps_flat q1 _) P⟩)
      · exact P.elim
    · exact P.elim
  · exact P.elim
theorem op2_div : Op2 nm X W dDiv (rI CDivW fun i j => .int (i / j)) := by
  intro env μ σ H ρ G Q d1 d2 v1 v2 R r1 r2 P
  unfold dDiv at P
  split at P
  · cases r1; cases r2
    split at P
    · rename_i hz
      exact ⟨_, _, rfl, rfl, hz, P _ H ρ G .refl R rfl⟩
    · exact P.elim
  · exact P.elim
theorem op2_mod : Op2 nm X W dMod (rI (fun _ j => 0 < j) fun i j => .int (i % j)) := by
  intro env μ σ H ρ G Q d1 d2 v1 v2 R r1 r2 P
  unfold dMod at P
  split at P
  · cases r1; cases r2
    split at P
    · rename_i hz
      exact ⟨_, _, rfl, rfl, hz, P _ H ρ G .refl R rfl⟩
    · exact P.elim
  · exact P.elim
theorem op2_pow : Op2 nm X W dPow (rI CPow fun i j => .int (i ^ j.toNat)) := by
  intro env μ σ H ρ G Q d1 d2 v1 v2 R r1 r2 P
  unfold dPow at P
  split at P
  · cases r1; cases r2
    split at P
    · rename_i hz
      exact ⟨_, _, rfl, rfl, hz, P _ H ρ G .refl R rfl⟩
    · exact P.elim
  · exact P.elim
theorem op1_neg : Op1 nm X W dNeg (rU fun i => .int (-i)) := by
  intro env μ σ H ρ G Q d v R r P
  unfold dNeg at P
  split at P
  · cases r
    exact ⟨_, rfl, P _ H ρ G .refl R rfl⟩
  · exact P.elim
end


/-! ### == != of data -/
def mapO {α β : Type} (f : α → Option β) : List α → Option (List β)
  | [] => some []
  | a :: r => match f a, mapO f r with
    | some x, some xs => some (x :: xs)
    | _, _ => none
mutual
/-- as the model's data -/
def toP : D → PyData
  | .non => .none | .bl b => .bool b | .int i => .int i | .str x => .str (S x)
  | .tup ds => .tuple (toPs ds) | .lst ds => .list (toPs ds) | .scr ds => .list (toPs ds)
  | .dic _ => .none | .dit _ => .none | .obj _ _ => .none | .ref _ => .none
def toPs : List D → List PyData
  | [] => []
  | d :: ds => toP d :: toPs ds
end
mutual
/-- frozen data, at most so deep -/
def pd : Nat → D → Bool
  | _, .non => true | _, .bl _ => true | _, .int _ => true | _, .str _ => true
  | k, .tup ds => match k with | 0 => false | k + 1 => pds k ds
  | k, .lst ds => match k with | 0 => false | k + 1 => pds k ds
  | k, .scr ds => match k with | 0 => false | k + 1 => pds k ds
  | _, .dic _ => false | _, .dit _ => false | _, .obj _ _ => false | _, .ref _ => false
def pds : Nat → List D → Bool
  | _, [] => true
  | k, d :: ds => pd k d && pds k ds
end
/-- the cells' contents put in -/
def inlE (μ : Mu) : Nat → D → Option D
  | _, .non => some .non
  | _, .bl b => some (.bl b)
  | _, .int i => some (.int i)
  | _, .str x => some (.str x)
  | k + 1, .tup ds => (mapO (inlE μ k) ds).map .tup
  | k + 1, .lst ds => (mapO (inlE μ k) ds).map .lst
  | k + 1, .scr ds => (mapO (inlE μ k) ds).map .lst
  | k + 1, .ref n => match μ[n]? with
    | some (.lst ds) => (mapO (inlE μ k) ds).map .lst
    | _ => none
  | _, _ => none
/-- as data to be compared -/
def vE (μ : Mu) (d : D) : Option D := if pd 20 d then some d else inlE μ 20 d
section
variable {nm : Nm} {X : Cx} {W : XW} {env : Ev} {μ : Mu} {σ : St} {H G : Hp} {ρ : List Addr}
/-- what is said of a value as data -/
def DpK (X : Cx) (H : Hp) (k : Nat) (v : V) (x : PyData) : Prop := Dp X.K H v x ∧ x.canLay0 = true ∧ x.depth ≤ k
theorem DpK.str {y : List Nat} {k : Nat} (o : okS y = true) : DpK X H k (.str (S y)) (.str (S y)) := by
  refine ⟨.str _, ?_, Nat.zero_le _⟩
  show PyData.strOk (S y) = true
  unfold PyData.strOk
  rw [← Array.all_toList, S_cps]
  simp only [List.all_eq_true, decide_eq_true_eq]
  exact fun c hc => okS_mem o hc
theorem DpK.up {k k' : Nat} {v : V} {x : PyData} (h : DpK X H k v x) (l : k ≤ k') : DpK X H k' v x := ⟨h.1, h.2.1, Nat.le_trans h.2.2 l⟩
mutual
theorem pd_ok (R : Rel (ct nm X) G ρ env μ σ H) : ∀ (k : Nat) (d : D) (v : V), rep (ct nm X) G ρ d v → pd k d = true → DpK X H k v (toP d)
  | _, .non, _, h, _ => by cases h; exact ⟨.non, rfl, Nat.zero_le _⟩
  | _, .bl _, _, h, _ => by cases h; exact ⟨.bl _, rfl, Nat.zero_le _⟩
  | _, .int _, _, h, _ => by cases h; exact ⟨.int _, rfl, Nat.zero_le _⟩
  | _, .str _, _, h, _ => by obtain ⟨rfl, o⟩ := h; exact DpK.str o
  | 0, .tup _, _, _, e => by simp [pd] at e
  | k + 1, .tup ds, _, h, e => by
    obtain ⟨a, vs, rfl, q, r⟩ := h
    obtain ⟨a1, a2, a3⟩ := pds_ok R k ds vs r (by simpa [pd] using e)
    exact ⟨.tup (SqT.of (R.sub _ _ q)) a1, a2, by show PyData.depthAll _ + 1 ≤ k + 1; omega⟩
  | 0, .lst _, _, _, e => by simp [pd] at e
  | k + 1, .lst ds, _, h, e => by
    obtain ⟨a, vs, rfl, q, r⟩ := h
    obtain ⟨a1, a2, a3⟩ := pds_ok R k ds vs r (by simpa [pd] using e)
    exact ⟨.lst (SqL.of (R.sub _ _ q)) a1, a2, by show PyData.depthAll _ + 1 ≤ k + 1; omega⟩
  | 0, .scr _, _, _, e => by simp [pd] at e
  | k + 1, .scr ds, _, h, e => by
    obtain ⟨a, vs, rfl, q, r⟩ := h
    obtain ⟨a1, a2, a3⟩ := pds_ok R k ds vs r (by simpa [pd] using e)
    exact ⟨.lst (R.sub.seq q) a1, a2, by show PyData.depthAll _ + 1 ≤ k + 1; omega⟩
  | _, .dic _, _, _, e => by simp [pd] at e
  | _, .dit _, _, _, e => by simp [pd] at e
  | _, .obj _ _, _, _, e => by simp [pd] at e
  | _, .ref _, _, _, e => by simp [pd] at e
theorem pds_ok (R : Rel (ct nm X) G ρ env μ σ H) : ∀ (k : Nat) (ds : List D) (vs : List V), reps (ct nm X) G ρ ds vs → pds k ds = true → DpAll X.K H vs (toPs ds) ∧ PyData.canLayAll0 (toPs ds) = true ∧ PyData.depthAll (toPs ds) ≤ k
  | _, [], _, h, _ => by cases h; exact ⟨.nil, rfl, Nat.zero_le _⟩
  | k, d :: ds, _, ⟨v, r, e1, h1, h2⟩, e => by
    subst e1
    simp only [pds, Bool.and_eq_true] at e
    obtain ⟨a1, a2, a3⟩ := pd_ok R k d v h1 e.1
    obtain ⟨b1, b2, b3⟩ := pds_ok R k ds r h2 e.2
    refine ⟨.cons a1 b1, ?_, ?_⟩
    · show ((toP d).canLay0 && PyData.canLayAll0 (toPs ds)) = true
      rw [a2, b2]; rfl
    · show max (toP d).depth (PyData.depthAll (toPs ds)) ≤ k
      omega
end
theorem inlEs_ok {k : Nat} (ih : ∀ d v d', rep (ct nm X) G ρ d v → inlE μ k d = some d' → DpK X H k v (toP d')) :
    ∀ (ds : List D) (vs : List V) (xs : List D), reps (ct nm X) G ρ ds vs → mapO (inlE μ k) ds = some xs → DpAll X.K H vs (toPs xs) ∧ PyData.canLayAll0 (toPs xs) = true ∧ PyData.depthAll (toPs xs) ≤ k
  | [], _, xs, h, e => by
    cases h
    cases e
    exact ⟨.nil, rfl, Nat.zero_le _⟩
  | d :: ds, _, xs, ⟨v, r, e1, h1, h2⟩, e => by
    subst e1
    unfold mapO at e
    split at e
    · rename_i x xs' ex exs
      cases e
      obtain ⟨a1, a2, a3⟩ := ih d v x h1 ex
      obtain ⟨b1, b2, b3⟩ := inlEs_ok ih ds r xs' h2 exs
      refine ⟨.cons a1 b1, ?_, ?_⟩
      · show ((toP x).canLay0 && PyData.canLayAll0 (toPs xs')) = true
        rw [a2, b2]; rfl
      · show max (toP x).depth (PyData.depthAll (toPs xs')) ≤ k
        omega
    · cases e
theorem inlE_ok (R : Rel (ct nm X) G ρ env μ σ H) : ∀ (k : Nat) (d : D) (v : V) (d' : D), rep (ct nm X) G ρ d v → inlE μ k d = some d' → DpK X H k v (toP d') := by
  intro k
  induction k with
  | zero =>
    intro d v d' h e
    cases d with
    | non => cases e; cases h; exact ⟨.non, rfl, Nat.zero_le _⟩
    | bl b => cases e; cases h; exact ⟨.bl b, rfl, Nat.zero_le _⟩
    | int i => cases e; cases h; exact ⟨.int i, rfl, Nat.zero_le _⟩
    | str y => cases e; obtain ⟨rfl, o⟩ := h; exact DpK.str o
    | _ => cases e
  | succ k ih =>
    intro d v d' h e
    cases d with
    | non => cases e; cases h; exact ⟨.non, rfl, Nat.zero_le _⟩
    | bl b => cases e; cases h; exact ⟨.bl b, rfl, Nat.zero_le _⟩
    | int i => cases e; cases h; exact ⟨.int i, rfl, Nat.zero_le _⟩
    | str y => cases e; obtain ⟨rfl, o⟩ := h; exact DpK.str o
    | tup ds =>
      obtain ⟨a, vs, rfl, q, r⟩ := tup_H R h
      simp only [inlE, Option.map_eq_some_iff] at e
      obtain ⟨xs, e1, rfl⟩ := e
      obtain ⟨a1, a2, a3⟩ := inlEs_ok ih ds vs xs r e1
      exact ⟨.tup q a1, a2, by show PyData.depthAll _ + 1 ≤ k + 1; omega⟩
    | lst ds =>
      obtain ⟨a, vs, rfl, q, r⟩ := lof_ok R h (show lof (.lst ds) μ = some ds from rfl)
      simp only [inlE, Option.map_eq_some_iff] at e
      obtain ⟨xs, e1, rfl⟩ := e
      obtain ⟨a1, a2, a3⟩ := inlEs_ok ih ds vs xs r e1
      exact ⟨.lst q a1, a2, by show PyData.depthAll _ + 1 ≤ k + 1; omega⟩
    | scr ds =>
      obtain ⟨a, vs, rfl, q, r⟩ := lof_ok R h (show lof (.scr ds) μ = some ds from rfl)
      simp only [inlE, Option.map_eq_some_iff] at e
      obtain ⟨xs, e1, rfl⟩ := e
      obtain ⟨a1, a2, a3⟩ := inlEs_ok ih ds vs xs r e1
      exact ⟨.lst q a1, a2, by show PyData.depthAll _ + 1 ≤ k + 1; omega⟩
    | ref n =>
      unfold inlE at e
      split at e
      · rename_i ds e2
        obtain ⟨a, vs, rfl, _, q, r⟩ := cell_lst R h e2
        simp only [Option.map_eq_some_iff] at e
        obtain ⟨xs, e1, rfl⟩ := e
        obtain ⟨a1, a2, a3⟩ := inlEs_ok ih ds vs xs r e1
        exact ⟨.lst (SqL.of q) a1, a2, by show PyData.depthAll _ + 1 ≤ k + 1; omega⟩
      · cases e
    | dic _ => cases e
    | dit _ => cases e
    | obj _ _ => cases e
theorem vE_ok (R : Rel (ct nm X) G ρ env μ σ H) {d : D} {v : V} {d' : D} (h : rep (ct nm X) G ρ d v) (e : vE μ d = some d') : DpK X H 20 v (toP d') := by
  unfold vE at e
  split at e
  · rename_i hp
    cases e
    exact pd_ok R 20 d v h hp
  · exact inlE_ok R 20 d v d' h e
theorem DpK.shaped {k : Nat} {v : V} {x : PyData} (h : DpK X H k v x) (hk : k ≤ 60) : SeqAt.shaped x = true := by
  obtain ⟨a, b, c⟩ := h
  unfold SeqAt.shaped
  rw [b, Bool.true_and, decide_eq_true_eq]
  omega
end
/-- Python's == of data -/
def beqD (a b : D) : Bool := PyData.eqv (toP a) (toP b)
def dEqB (a b : D) (μ : Mu) : Option Bool := match vE μ a, vE μ b with
  | some x, some y => some (beqD x y)
  | _, _ => none
def ofB (o : Option Bool) (μ : Mu) : Res (D × Mu) := match o with
  | some b => .ok (.bl b, μ)
  | none => .no
def dEq : F2 := fun a b μ => ofB (dEqB a b μ) μ
def dNe : F2 := fun a b μ => ofB ((dEqB a b μ).map not) μ
section
variable {nm : Nm} {X : Cx} {W : XW}
theorem beq_S {x y : List Nat} : (S x == S y) = decide (x = y) := by
  rw [Bool.eq_iff_iff, beq_iff_eq, decide_eq_true_eq]
  exact ⟨S_inj, fun h => by rw [h]⟩
theorem dEqB_ok {env : Ev} {μ : Mu} {σ : St} {H G : Hp} {ρ : List Addr} (R : Rel (ct nm X) G ρ env μ σ H) {a b : D} {v w : V} {k : Bool} (h1 : rep (ct nm X) G ρ a v) (h2 : rep (ct nm X) G ρ b w) (e : dEqB a b μ = some k) :
    ∃ x y, Dp X.K H v x ∧ Dp X.K H w y ∧ SeqAt.shaped x = true ∧ SeqAt.shaped y = true ∧ PyData.eqv x y = k := by
  unfold dEqB at e
  split at e
  · rename_i x y e1 e2
    cases e
    have A := vE_ok R h1 e1
    have B := vE_ok R h2 e2
    exact ⟨_, _, A.1, B.1, A.shaped (by decide), B.shaped (by decide), rfl⟩
  · cases e
theorem op2_eq : Op2 nm X W dEq (rEqD X.K) := by
  intro env μ σ H ρ G Q d1 d2 v1 v2 R r1 r2 P
  unfold dEq ofB at P
  split at P
  · rename_i k e
    obtain ⟨x, y, a1, b1, a2, b2, e2⟩ := dEqB_ok R r1 r2 e
    exact ⟨x, y, a1, b1, a2, b2, by rw [e2]; exact P _ H ρ G .refl R rfl⟩
  · exact P.elim
theorem op2_ne : Op2 nm X W dNe (rNeD X.K) := by
  intro env μ σ H ρ G Q d1 d2 v1 v2 R r1 r2 P
  unfold dNe ofB at P
  split at P
  · rename_i k e
    cases e1 : dEqB d1 d2 μ with
    | none => rw [e1] at e; cases e
    | some k' =>
      rw [e1] at e
      cases e
      obtain ⟨x, y, a1, b1, a2, b2, e2⟩ := dEqB_ok R r1 r2 e1
      exact ⟨x, y, a1, b1, a2, b2, by rw [e2]; exact P _ H ρ G .refl R rfl⟩
  · exact P.elim
end
end Lr

/-! Lr, part 4: order, in, is; items, slices; built-ins by name, methods of built-in types. -/
namespace Lr
open PySem L2 PySem.Spec
open PyProof.Rows hiding St

/-! ### order -/
def ltL : List Nat → List Nat → Bool := fun x y => decide (x < y)
def intsOf : List D → Option (List Int)
  | [] => some []
  | .int i :: r => (intsOf r).map (i :: ·)
  | _ => none
/-- Python's < of data -/
def ltD (a b : D) : Bool := PySem.W.dataLt (toP a) (toP b)
def okLt (a b : D) : Bool := PySem.W.alike (toP a) (toP b) && (match a with | .tup _ => true | .lst _ => true | .scr _ => true | .int _ => true | .str _ => true | .bl _ => true | _ => false)
def dCmp (f : Int → Int → Bool) (g : List Nat → List Nat → Bool) (h : D → D → Bool) : F2 := fun a b μ => match a, b with
  | .int i, .int j => .ok (.bl (f i j), μ)
  | .str x, .str y => .ok (.bl (g x y), μ)
  | a, b => match vE μ a, vE μ b with
    | some x, some y => if okLt x y then .ok (.bl (h x y), μ) else .no
    | _, _ => .no
def dLt : F2 := dCmp (fun i j => decide (i < j)) (fun x y => ltL x y) ltD
def dLe : F2 := dCmp (fun i j => decide (i ≤ j)) (fun x y => !ltL y x) (fun x y => !ltD y x)
def dGt : F2 := dCmp (fun i j => decide (j < i)) (fun x y => ltL y x) (fun x y => ltD y x)
def dGe : F2 := dCmp (fun i j => decide (j ≤ i)) (fun x y => !ltL x y) (fun x y => !ltD x y)
section
variable {nm : Nm} {X : Cx} {W : XW}
theorem intsOf_map : ∀ {ds : List D} {ns : List Int}, intsOf ds = some ns → ds = ns.map D.int := by
  intro ds
  induction ds with
  | nil => intro ns e; cases e; rfl
  | cons d ds ih =>
    intro ns e
    cases d with
    | int i =>
      simp only [intsOf, Option.map_eq_some_iff] at e
      obtain ⟨ms, e2, rfl⟩ := e
      rw [ih e2]; rfl
    | _ => cases e
theorem reps_ints {t : Ct} {G : Hp} {ρ : List Addr} : ∀ {ns : List Int} {vs : List V}, reps t G ρ (ns.map D.int) vs → vs = ns.map V.int := by
  intro ns
  induction ns with
  | nil => intro vs h; exact h
  | cons n ns ih =>
    intro vs h
    obtain ⟨v, r, e1, h1, h2⟩ := h
    rw [e1, ih h2, show v = .int n from h1]; rfl
theorem intsOf_reps {t : Ct} {G : Hp} {ρ : List Addr} {ds : List D} {vs : List V} {ns : List Int} (h : reps t G ρ ds vs) (e : intsOf ds = some ns) : vs = ns.map V.int ∧ ds = ns.map D.int := by
  have := intsOf_map e
  subst this
  exact ⟨reps_ints h, rfl⟩
def rCmpD (X : Cx) (h : PyData → PyData → Bool) : R2 := fun x y H Q => ∃ d e, Dp X.K H x d ∧ Dp X.K H y e ∧ PySem.W.alike d e = true ∧ d ≠ .none ∧ min d.depth e.depth ≤ 20 ∧ Q (.bl (h d e)) H
theorem op_ltD (hu : X.A.units + 64 < cLine) : OpR X (compareOp .Lt) (rCmpD X fun d e => PySem.W.dataLt d e) := by
  intro pins s σ H x y v u Q I rx ry h
  obtain ⟨d, e, hd, he, ha, hn, hk, q⟩ := h
  obtain ⟨as, r1⟩ := Dp.reads I d x v hd rx
  obtain ⟨bs, r2⟩ := Dp.reads I e y u he ry
  exact PySem.W.lt_data r1 r2 ha hn (by omega) ⟨.bl _, H, I, rfl, q⟩
theorem op_gtD (hu : X.A.units + 64 < cLine) : OpR X (compareOp .Gt) (rCmpD X fun d e => PySem.W.dataLt e d) := by
  intro pins s σ H x y v u Q I rx ry h
  obtain ⟨d, e, hd, he, ha, hn, hk, q⟩ := h
  obtain ⟨as, r1⟩ := Dp.reads I d x v hd rx
  obtain ⟨bs, r2⟩ := Dp.reads I e y u he ry
  exact PySem.W.gt_data r1 r2 ha hn (by omega) ⟨.bl _, H, I, rfl, q⟩
theorem op_leD (hu : X.A.units + 64 < cLine) : OpR X (compareOp .LtE) (rCmpD X fun d e => !PySem.W.dataLt e d) := by
  intro pins s σ H x y v u Q I rx ry h
  obtain ⟨d, e, hd, he, ha, hn, hk, q⟩ := h
  obtain ⟨as, r1⟩ := Dp.reads I d x v hd rx
  obtain ⟨bs, r2⟩ := Dp.reads I e y u he ry
  exact PySem.W.le_data r1 r2 ha hn (by omega) ⟨.bl _, H, I, rfl, q⟩
theorem op_geD (hu : X.A.units + 64 < cLine) : OpR X (compareOp .GtE) (rCmpD X fun d e => !PySem.W.dataLt d e) := by
  intro pins s σ H x y v u Q I rx ry h
  obtain ⟨d, e, hd, he, ha, hn, hk, q⟩ := h
  obtain ⟨as, r1⟩ := Dp.reads I d x v hd rx
  obtain ⟨bs, r2⟩ := Dp.reads I e y u he ry
  exact PySem.W.ge_data r1 r2 ha hn (by omega) ⟨.bl _, H, I, rfl, q⟩
def rCmpA (X : Cx) (f : Int → Int → Bool) (g : List Nat → List Nat → Bool) (h : PyData → PyData → Bool) : R2 := fun x y H Q => ((rI0 fun i j => .bl (f i j)) x y H Q ∨ (∃ i j, x = .str i ∧ y = .str j ∧ Q (.bl (g i.cps.toList j.cps.toList)) H)) ∨ rCmpD X h x y H Q
theorem opr_lt (hu : X.A.units + 64 < cLine) : OpR X (compareOp .Lt) (rCmpA X (fun i j => decide (i < j)) (fun x y => ltL x y) fun d e => PySem.W.dataLt d e) := (op_lt.or op_lt_str).or (op_ltD hu)
theorem opr_le (hu : X.A.units + 64 < cLine) : OpR X (compareOp .LtE) (rCmpA X (fun i j => decide (i ≤ j)) (fun x y => !ltL y x) fun d e => !PySem.W.dataLt e d) := (op_le.or (by
  intro pins s σ H x y v u Q I rx ry h
  obtain ⟨i, j, rfl, rfl, q⟩ := h
  exact op_le_str pins s σ H _ _ v u Q I rx ry ⟨i, j, rfl, rfl, q⟩)).or (op_leD hu)
theorem opr_gt (hu : X.A.units + 64 < cLine) : OpR X (compareOp .Gt) (rCmpA X (fun i j => decide (j < i)) (fun x y => ltL y x) fun d e => PySem.W.dataLt e d) := (op_gt.or op_gt_str).or (op_gtD hu)
theorem opr_ge (hu : X.A.units + 64 < cLine) : OpR X (compareOp .GtE) (rCmpA X (fun i j => decide (j ≤ i)) (fun x y => !ltL x y) fun d e => !PySem.W.dataLt d e) := (op_ge.or (by
  intro pins s σ H x y v u Q I rx ry h
  obtain ⟨i, j, rfl, rfl, q⟩ := h
  exact op_ge_str pins s σ H _ _ v u Q I rx ry ⟨i, j, rfl, rfl, q⟩)).or (op_geD hu)
theorem op2_cmp {f : Int → Int → Bool} {g : List Nat → List Nat → Bool} {h : D → D → Bool} {k : PyData → PyData → Bool} (hk : ∀ a b, h a b = k (toP a) (toP b)) : Op2 nm X W (dCmp f g h) (rCmpA X f g k) := by
  intro env μ σ H ρ G Q d1 d2 v1 v2 R r1 r2 P
  unfold dCmp at P
  split at P
  · cases r1; cases r2
    exact .inl (.inl ⟨_, _, rfl, rfl, P _ H ρ G .refl R rfl⟩)
  · obtain ⟨rfl, _⟩ := r1
    obtain ⟨rfl, _⟩ := r2
    exact .inl (.inr ⟨_, _, rfl, rfl, by rw [S_cps, S_cps]; exact P _ H ρ G .refl R rfl⟩)
  · split at P
    · rename_i x y e1 e2
      split at P
      · rename_i hz
        unfold okLt at hz
        rw [Bool.and_eq_true] at hz
        have A := vE_ok R r1 e1
        have B := vE_ok R r2 e2
        refine .inr ⟨_, _, A.1, B.1, hz.1, ?_, by have := A.2.2; omega, by rw [← hk]; exact P _ H ρ G .refl R rfl⟩
        have hz2 := hz.2
        intro e
        cases x <;> simp [toP] at e hz2
      · exact P.elim
    · exact P.elim
theorem op2_lt : Op2 nm X W dLt (rCmpA X (fun i j => decide (i < j)) (fun x y => ltL x y) fun d e => PySem.W.dataLt d e) := op2_cmp fun _ _ => rfl
theorem op2_le : Op2 nm X W dLe (rCmpA X (fun i j => decide (i ≤ j)) (fun x y => !ltL y x) fun d e => !PySem.W.dataLt e d) := op2_cmp fun _ _ => rfl
theorem op2_gt : Op2 nm X W dGt (rCmpA X (fun i j => decide (j < i)) (fun x y => ltL y x) fun d e => PySem.W.dataLt e d) := op2_cmp fun _ _ => rfl
theorem op2_ge : Op2 nm X W dGe (rCmpA X (fun i j => decide (j ≤ i)) (fun x y => !ltL x y) fun d e => !PySem.W.dataLt d e) := op2_cmp fun _ _ => rfl
end

/-! ### a < b < c -/
def cCh (f g : F2) (a b c : M) : M := fun env μ => (a env μ).bind fun x => (b env x.2).bind fun y => (f x.1 y.1 y.2).bind fun z => match z.1 with
  | .bl true => (c env z.2).bind fun w => g y.1 w.1 w.2
  | .bl false => .ok (.bl false, z.2)
  | _ => .no
section
variable {nm : Nm} {X : Cx} {W : XW} {a b c : Expr} {pos : Pos} {ma mb mc : M}
theorem chain_run {f g : F2} {r r' : R2} (hf : Op2 nm X W f r) (hg : Op2 nm X W g r') (ha : EV nm X W a ma) (hb : EV nm X W b mb) (hc : EV nm X W c mc) {env μ σ H ρ G Q} (R : Rel (ct nm X) G ρ env μ σ H)
    (P : Po (cCh f g ma mb mc env μ) (KE (ct nm X) env σ G ρ H Q) (KX (ct nm X) W env σ G ρ H)) : tChain r r' (wpE X a) (wpE X b) (wpE X c) σ H Q := by
  refine ha.run env μ σ H ρ G _ R ((Po.bind P).imp (fun x hx v H1 ρ1 G1 e1 R1 r1 => ?_) fun _ _ _ h => h)
  refine hb.run env x.2 σ H1 ρ1 G1 _ R1 ((Po.bind (Po.reE e1 hx)).imp (fun y hy w H2 ρ2 G2 e2 R2 r2 => ?_) fun _ _ _ h => h)
  refine hf env y.2 σ H2 ρ2 G2 _ x.1 y.1 v w R2 (e2.rep r1) r2 ((Po.bind (Po.reE e2 hy)).imp (fun z hz u H3 ρ3 G3 e3 R3 r3 => ?_) fun _ _ _ h => h)
  obtain ⟨dz, μz⟩ := z
  cases dz with
  | bl k =>
    cases r3
    cases k with
    | false => exact ⟨false, rfl, iteF (hz _ H3 ρ3 G3 e3 R3 rfl)⟩
    | true =>
      refine ⟨true, rfl, iteT ?_⟩
      refine hc.run env μz σ H3 ρ3 G3 _ R3 ((Po.bind (Po.reE e3 hz)).imp (fun q hq u H4 ρ4 G4 e4 R4 r4 => ?_) fun _ _ _ h => h)
      exact hg env q.2 σ H4 ρ4 G4 Q y.1 q.1 w u R4 (e4.rep (e3.rep r2)) r4 (Po.reE e4 hq)
  | _ => exact hz.elim
theorem ev_chain {op op' : CmpOp} {f g : F2} {r r' : R2} (ho : OpR X (compareOp op) r) (ho' : OpR X (compareOp op') r') (hf : Op2 nm X W f r) (hg : Op2 nm X W g r') (ha : EV nm X W a ma) (hb : EV nm X W b mb) (hc : EV nm X W c mc)
    (h1 : lastMarks [op, op'] [b, c] = false := by with_unfolding_all rfl) : EV nm X W (.Compare a [op, op'] [b, c] pos) (cCh f g ma mb mc) :=
  ev_of (pe_chain ho ho' pe_wp pe_wp pe_wp h1) fun env μ σ H ρ G Q R P => chain_run hf hg ha hb hc R P
theorem tv_chain {op op' : CmpOp} {f g : F2} {r r' : R2} (ho : OpR X (compareOp op) r) (ho' : OpR X (compareOp op') r') (hf : Op2 nm X W f r) (hg : Op2 nm X W g r') (ha : EV nm X W a ma) (hb : EV nm X W b mb) (hc : EV nm X W c mc)
    (h1 : lastMarks [op, op'] [b, c] = false := by with_unfolding_all rfl) : TV nm X W (.Compare a [op, op'] [b, c] pos) (tVal (cCh f g ma mb mc)) :=
  ⟨fun env μ σ H ρ G Q R P => to_t (pt_chain ho ho' pe_wp pe_wp pe_wp h1) (by
  refine chain_run hf hg ha hb hc R (Po.imp (Po.bind P) (fun x hx v H' ρ' G' e R' r' => ?_) fun _ _ _ h => h)
  obtain ⟨d, μ'⟩ := x
  cases d <;> first
    | exact hx.elim
    | (cases r'; exact ⟨_, rfl, hx H' ρ' G' e R'⟩))⟩
end

/-! ### dicts: keys, look-up -/
/-- a dict -/
def dof (d : D) (μ : Mu) : Option D := match d with
  | .dic kvs => some (.dic kvs)
  | .dit kvs => some (.dit kvs)
  | .ref n => match μ[n]? with
    | some (.dic kvs) => some (.dic kvs)
    | some (.dit kvs) => some (.dit kvs)
    | _ => none
  | _ => none
/-- two keys are the same -/
def kEq (a b : D) : Bool := match a, b with
  | .int i, .int j => decide (i = j)
  | .str x, .str y => decide (x = y)
  | _, _ => match keyT a, keyT b with
    | some x, some y => decide (x = y)
    | _, _ => false
def look (kvs : List (D × D)) (k : D) : Option D := (kvs.find? fun p => kEq p.1 k).map (·.2)
def isK (d : D) : Bool := match d with
  | .int _ => true
  | .str _ => true
  | _ => false
/-- what is found at a key, if it can be a key of this dict -/
def dLook (d k : D) : Option (Option D) := match d with
  | .dic kvs => if isK k then some (look kvs k) else none
  | .dit kvs => if (keyT k).isSome then some (look kvs k) else none
  | _ => none
section
variable {t : Ct} {G H : Hp} {ρ : List Addr}
theorem keyOf_eq {a b : D} {x y : Key} (h1 : keyOf a = some x) (h2 : keyOf b = some y) : kEq a b = decide (x = y) := by
  cases a <;> simp [keyOf] at h1 <;> cases b <;> simp [keyOf] at h2 <;> subst h1 h2 <;> unfold kEq
  · rw [Bool.eq_iff_iff]; simp
  · simp [keyT]
  · simp [keyT]
  · rw [Bool.eq_iff_iff]; simp only [decide_eq_true_eq, Sum.inr.injEq]
    exact ⟨fun h => by rw [h], S_inj⟩
theorem keyT_eq {a b : D} {x y : List Key} (h1 : keyT a = some x) (h2 : keyT b = some y) : kEq a b = decide (x = y) := by
  cases a <;> simp [keyT] at h1
  unfold kEq
  cases b <;> simp [keyT] at h2
  simp [keyT, h1, h2]
theorem look_k {k : D} {k' : Key} (hk : keyOf k = some k') : ∀ {kvs : List (D × D)} {ks : List (Key × V)}, repk t G ρ kvs ks → (∀ d, look kvs k = some d → ∃ v, valV ks k' = some v ∧ rep t G ρ d v) ∧ (look kvs k = none → valV ks k' = none)
  | [], _, h => by cases h; exact ⟨fun d e => by simp [look] at e, fun _ => rfl⟩
  | (a, d) :: r, _, ⟨x, v, r', e, hx, h1, h2⟩ => by
    subst e
    have ih := look_k hk h2
    have hq := keyOf_eq hx hk
    unfold look at ih ⊢
    by_cases c : x = k'
    · rw [List.find?_cons_of_pos (by rw [hq]; exact decide_eq_true c)]
      refine ⟨fun d' e => ?_, fun e => by cases e⟩
      cases e
      exact ⟨v, valV_pos c, h1⟩
    · rw [List.find?_cons_of_neg (by rw [hq]; simpa using c), valV_neg c]
      exact ih
theorem look_t {k : D} {k' : List Key} (hk : keyT k = some k') : ∀ {kvs : List (D × D)} {ks : List (List Key × V)}, repkT t G ρ kvs ks → (∀ d, look kvs k = some d → ∃ v, valV ks k' = some v ∧ rep t G ρ d v) ∧ (look kvs k = none → valV ks k' = none)
  | [], _, h => by cases h; exact ⟨fun d e => by simp [look] at e, fun _ => rfl⟩
  | (a, d) :: r, _, ⟨x, v, r', e, hx, h1, h2⟩ => by
    subst e
    have ih := look_t hk h2
    have hq := keyT_eq hx hk
    unfold look at ih ⊢
    by_cases c : x = k'
    · rw [List.find?_cons_of_pos (by rw [hq]; exact decide_eq_true c)]
      refine ⟨fun d' e => ?_, fun e => by cases e⟩
      cases e
      exact ⟨v, valV_pos c, h1⟩
    · rw [List.find?_cons_of_neg (by rw [hq]; simpa using c), valV_neg c]
      exact ih
theorem rep_key {k : D} {v : V} (r : rep t G ρ k v) (h : isK k = true) : ∃ k', keyOf k = some k' ∧ v = kV k' := by
  cases k <;> simp [isK] at h
  · cases r; exact ⟨_, rfl, rfl⟩
  · obtain ⟨rfl, _⟩ := r; exact ⟨_, rfl, rfl⟩
theorem reps_keys : ∀ {ds : List D} {vs : List V} {ks : List Key}, reps t G ρ ds vs → keysOfL ds = some ks → vs = ks.map kV
  | [], _, _, r, e => by cases r; cases e; rfl
  | d :: ds, _, ks, ⟨v, r, e1, h1, h2⟩, e => by
    subst e1
    unfold keysOfL at e
    split at e
    · rename_i k ks' ek eks
      cases e
      rw [List.map_cons, reps_keys h2 eks]
      have : isK d = true := by cases d <;> simp [keyOf] at ek <;> rfl
      obtain ⟨k', e1, e2⟩ := rep_key h1 this
      rw [e1] at ek; cases ek
      rw [e2]
    · cases e
end
section
variable {nm : Nm} {X : Cx} {W : XW} {env : Ev} {μ : Mu} {σ : St} {H G : Hp} {ρ : List Addr}
theorem rep_keyT (R : Rel (ct nm X) G ρ env μ σ H) {k : D} {v : V} {k' : List Key} (r : rep (ct nm X) G ρ k v) (h : keyT k = some k') : ∃ b, v = .ref b ∧ H b = some (.tup (k'.map kV)) := by
  cases k <;> simp [keyT] at h
  obtain ⟨a, vs, rfl, q, rs⟩ := tup_T R r
  exact ⟨a, rfl, by rw [q, reps_keys rs h]⟩
/-- the dict's reading at a key -/
theorem dLook_ok (R : Rel (ct nm X) G ρ env μ σ H) {d k dd : D} {v w : V} {o : Option D} (r1 : rep (ct nm X) G ρ d v) (r2 : rep (ct nm X) G ρ k w) (e1 : dof d μ = some dd) (e2 : dLook dd k = some o) :
    ∃ a ov, v = .ref a ∧ DGet H a w ov ∧ ov.isSome = o.isSome ∧ ∀ x, o = some x → ∃ y, ov = some y ∧ rep (ct nm X) G ρ x y := by
  have key : ∀ {kvs : List (D × D)} {ks : List (Key × V)} {a : Addr}, H a = some (.dK ks) → repk (ct nm X) G ρ kvs ks → dLook (.dic kvs) k = some o → ∃ ov, DGet H a w ov ∧ ov.isSome = o.isSome ∧ ∀ x, o = some x → ∃ y, ov = some y ∧ rep (ct nm X) G ρ x y := fun {kvs ks a} h rk e => by
    unfold dLook at e
    dsimp only at e
    split at e
    · rename_i hk
      cases e
      obtain ⟨k', q1, rfl⟩ := rep_key r2 hk
      obtain ⟨l1, l2⟩ := look_k q1 rk
      refine ⟨valV ks k', DGet.k h, ?_, l1⟩
      cases q : look kvs k with
      | none => rw [l2 q]; rfl
      | some x => obtain ⟨y, e, _⟩ := l1 x q; rw [e]; rfl
    · cases e
  have keyt : ∀ {kvs : List (D × D)} {ks : List (List Key × V)} {a : Addr}, H a = some (.dT ks) → repkT (ct nm X) G ρ kvs ks → dLook (.dit kvs) k = some o → ∃ ov, DGet H a w ov ∧ ov.isSome = o.isSome ∧ ∀ x, o = some x → ∃ y, ov = some y ∧ rep (ct nm X) G ρ x y := fun {kvs ks a} h rk e => by
    unfold dLook at e
    dsimp only at e
    split at e
    · rename_i hk
      cases e
      obtain ⟨k', q1⟩ := Option.isSome_iff_exists.mp hk
      obtain ⟨b, rfl, hb⟩ := rep_keyT R r2 q1
      obtain ⟨l1, l2⟩ := look_t q1 rk
      refine ⟨valV ks k', DGet.t h hb, ?_, l1⟩
      cases q : look kvs k with
      | none => rw [l2 q]; rfl
      | some x => obtain ⟨y, e, _⟩ := l1 x q; rw [e]; rfl
    · cases e
  unfold dof at e1
  split at e1
  · cases e1
    obtain ⟨a, ks, rfl, q, rk⟩ := r1
    obtain ⟨ov, h⟩ := key (R.sub _ _ q) rk e2
    exact ⟨a, ov, rfl, h⟩
  · cases e1
    obtain ⟨a, ks, rfl, q, rk⟩ := r1
    obtain ⟨ov, h⟩ := keyt (R.sub _ _ q) rk e2
    exact ⟨a, ov, rfl, h⟩
  · rename_i n
    obtain ⟨a, e3, rfl⟩ := r1
    split at e1
    · rename_i kvs q
      cases e1
      obtain ⟨ks, q2, rk⟩ := R.cells n a _ e3 q
      obtain ⟨ov, h⟩ := key q2 rk e2
      exact ⟨a, ov, rfl, h⟩
    · rename_i kvs q
      cases e1
      obtain ⟨ks, q2, rk⟩ := R.cells n a _ e3 q
      obtain ⟨ov, h⟩ := keyt q2 rk e2
      exact ⟨a, ov, rfl, h⟩
    · cases e1
  · cases e1
end

/-! ### in, not in, is -/
def inL (a : D) (ds : List D) (μ : Mu) : Option Bool := match vE μ a, mapO (vE μ) ds with
  | some x, some xs => some (xs.any fun z => beqD z x)
  | _, _ => none
def dInB (a b : D) (μ : Mu) : Option Bool := match b with
  | .str z => match a with
    | .str [c] => some (decide (c ∈ z))
    | .str x => some (!(Builtin.Str.occurrences (S z) (S x) 0 z.length 1).isEmpty)
    | _ => none
  | .tup ds => inL a ds μ
  | b => match lof b μ with
    | some ds => inL a ds μ
    | none => match dof b μ with
      | some dd => (dLook dd a).map (·.isSome)
      | none => none
def dIn : F2 := fun a b μ => ofB (dInB a b μ) μ
def dNotIn : F2 := fun a b μ => ofB ((dInB a b μ).map not) μ
def dIs : F2 := fun a b μ => match a, b with
  | x, .non => .ok (.bl (match x with | .non => true | _ => false), μ)
  | .bl x, .bl y => .ok (.bl (decide (x = y)), μ)
  | _, _ => .no
def dIsNot : F2 := fun a b μ => match a, b with
  | x, .non => .ok (.bl (match x with | .non => false | _ => true), μ)
  | .bl x, .bl y => .ok (.bl (!decide (x = y)), μ)
  | _, _ => .no
section
variable {nm : Nm} {X : Cx} {W : XW}
def rInT (X : Cx) (f : Bool → Bool) : R2 := fun x y H Q => ∃ d ds, Dp X.K H x d ∧ Dp X.K H y (.tuple ds) ∧ SeqAt.shaped d = true ∧ SeqAt.shaped (.tuple ds) = true ∧ Q (.bl (f (ds.any fun z => PyData.eqv z d))) H
theorem op_inT (hu : X.A.units + 65 < cLine) : OpR X (compareOp .In) (rInT X id) := by
  intro pins s σ H x y v u Q I rx ry h
  obtain ⟨d, ds, hd, he, sd, se, q⟩ := h
  obtain ⟨as, r1⟩ := Dp.reads I d x v hd rx
  obtain ⟨bs, r2⟩ := Dp.reads I (.tuple ds) y u he ry
  exact SeqAt.in_tuple_reads r2 r1 (SeqAt.canLay_of_shaped se) (SeqAt.canLay_of_shaped sd) (PyProof.Rows.room_in_shaped sd hu) ⟨.bl _, H, I, rfl, q⟩
theorem op_notInT (hu : X.A.units + 65 < cLine) : OpR X (compareOp .NotIn) (rInT X not) := by
  intro pins s σ H x y v u Q I rx ry h
  obtain ⟨d, ds, hd, he, sd, se, q⟩ := h
  obtain ⟨as, r1⟩ := Dp.reads I d x v hd rx
  obtain ⟨bs, r2⟩ := Dp.reads I (.tuple ds) y u he ry
  exact SeqAt.notIn_tuple_reads r2 r1 (SeqAt.canLay_of_shaped se) (SeqAt.canLay_of_shaped sd) (PyProof.Rows.room_in_shaped sd hu) ⟨.bl _, H, I, rfl, q⟩
def rInDc (f : Bool → Bool) : R2 := fun x y H Q => ∃ a ov, y = .ref a ∧ DGet H a x ov ∧ Q (.bl (f ov.isSome)) H
theorem op_inDc (hu : X.A.units + 65 < cLine) : OpR X (compareOp .In) (rInDc id) := by
  intro pins s σ H x y v u Q I rx ry h
  obtain ⟨a, ov, rfl, g, q⟩ := h
  cases ry
  exact d_in (by omega) I g rx fun s' I' => ⟨.bl _, H, I', rfl, q⟩
theorem op_notInDc (hu : X.A.units + 65 < cLine) : OpR X (compareOp .NotIn) (rInDc not) := by
  intro pins s σ H x y v u Q I rx ry h
  obtain ⟨a, ov, rfl, g, q⟩ := h
  cases ry
  exact d_notIn (by omega) I g rx fun s' I' => ⟨.bl _, H, I', rfl, q⟩
def rInS (f : Bool → Bool) : R2 := fun x y H Q => ((∃ (c : Nat) (z : Str), x = .str ⟨#[c]⟩ ∧ y = .str z ∧ Q (.bl (f (decide (c ∈ z.cps.toList)))) H) ∨
  (∃ i j, x = .str i ∧ y = .str j ∧ Q (.bl (f (!(Builtin.Str.occurrences j i 0 j.length 1).isEmpty))) H))
def rInA (X : Cx) : R2 := fun x y H Q => rInS id x y H Q ∨ (rInD X.K x y H Q ∨ rInT X id x y H Q) ∨ rInDc id x y H Q
theorem opr_in (hu : X.A.units + 65 < cLine) : OpR X (compareOp .In) (rInA X) := (op_in_sign.or op_in_str).or (((op_inD hu).or (op_inT hu)).or (op_inDc hu))
def rNotInA (X : Cx) : R2 := fun x y H Q => rInS not x y H Q ∨ (rNotInD X.K x y H Q ∨ rInT X not x y H Q) ∨ rInDc not x y H Q
theorem opr_notIn (hu : X.A.units + 65 < cLine) : OpR X (compareOp .NotIn) (rNotInA X) := (op_notIn_sign.or op_notIn_str).or (((op_notInD hu).or (op_notInT hu)).or (op_notInDc hu))
theorem S_one (c : Nat) : S [c] = ⟨#[c]⟩ := rfl
theorem vEs_ok {env : Ev} {μ : Mu} {σ : St} {H G : Hp} {ρ : List Addr} (R : Rel (ct nm X) G ρ env μ σ H) : ∀ {ds : List D} {vs : List V} {xs : List D}, reps (ct nm X) G ρ ds vs → mapO (vE μ) ds = some xs → DpAll X.K H vs (toPs xs) ∧ PyData.canLayAll0 (toPs xs) = true ∧ PyData.depthAll (toPs xs) ≤ 20
  | [], _, xs, h, e => by
    cases h
    cases e
    exact ⟨.nil, rfl, Nat.zero_le _⟩
  | d :: ds, _, xs, ⟨v, r, e1, h1, h2⟩, e => by
    subst e1
    unfold mapO at e
    split at e
    · rename_i x xs' ex exs
      cases e
      obtain ⟨a1, a2, a3⟩ := vE_ok R h1 ex
      obtain ⟨b1, b2, b3⟩ := vEs_ok R h2 exs
      refine ⟨.cons a1 b1, ?_, ?_⟩
      · show ((toP x).canLay0 && PyData.canLayAll0 (toPs xs')) = true
        rw [a2, b2]; rfl
      · show max (toP x).depth (PyData.depthAll (toPs xs')) ≤ 20
        omega
    · cases e
theorem any_toPs (x : D) : ∀ xs : List D, ((toPs xs).any fun z => PyData.eqv z (toP x)) = xs.any fun z => beqD z x
  | [] => rfl
  | y :: ys => by
    show (PyData.eqv (toP y) (toP x) || (toPs ys).any fun z => PyData.eqv z (toP x)) = _
    rw [any_toPs x ys]; rfl
theorem dInB_ok {env : Ev} {μ : Mu} {σ : St} {H G : Hp} {ρ : List Addr} (R : Rel (ct nm X) G ρ env μ σ H) {a b : D} {v w : V} {k : Bool} (h1 : rep (ct nm X) G ρ a v) (h2 : rep (ct nm X) G ρ b w) (e : dInB a b μ = some k) :
    ((∃ (c : Nat) (z : Str), v = .str ⟨#[c]⟩ ∧ w = .str z ∧ decide (c ∈ z.cps.toList) = k) ∨ (∃ i j, v = .str i ∧ w = .str j ∧ (!(Builtin.Str.occurrences j i 0 j.length 1).isEmpty) = k)) ∨
    ((∃ d ds, Dp X.K H v d ∧ Dp X.K H w (.list ds) ∧ SeqAt.shaped d = true ∧ SeqAt.shaped (.list ds) = true ∧ (ds.any fun z => PyData.eqv z d) = k) ∨
    (∃ d ds, Dp X.K H v d ∧ Dp X.K H w (.tuple ds) ∧ SeqAt.shaped d = true ∧ SeqAt.shaped (.tuple ds) = true ∧ (ds.any fun z => PyData.eqv z d) = k)) ∨
    (∃ a ov, w = .ref a ∧ DGet H a v ov ∧ ov.isSome = k) := by
  have seqL : ∀ {ds : List D} {p : Addr} {vs : List V}, w = .ref p → SqL X.K H p vs → reps (ct nm X) G ρ ds vs → inL a ds μ = some k → ∃ d es, Dp X.K H v d ∧ Dp X.K H w (.list es) ∧ SeqAt.shaped d = true ∧ SeqAt.shaped (.list es) = true ∧ (es.any fun z => PyData.eqv z d) = k := fun {ds p vs} ew q r e => by
    subst ew
    unfold inL at e
    split at e
    · rename_i x xs e1 e2
      cases e
      have A := vE_ok R h1 e1
      obtain ⟨b1, b2, b3⟩ := vEs_ok R r e2
      refine ⟨_, _, A.1, .lst q b1, A.shaped (by decide), DpK.shaped (X := X) (H := H) (v := .ref p) (k := 21) ⟨.lst q b1, b2, ?_⟩ (by decide), any_toPs x xs⟩
      show PyData.depthAll _ + 1 ≤ 21
      omega
    · cases e
  have seqT : ∀ {ds : List D} {p : Addr} {vs : List V}, w = .ref p → SqT X.K H p vs → reps (ct nm X) G ρ ds vs → inL a ds μ = some k → ∃ d es, Dp X.K H v d ∧ Dp X.K H w (.tuple es) ∧ SeqAt.shaped d = true ∧ SeqAt.shaped (.tuple es) = true ∧ (es.any fun z => PyData.eqv z d) = k := fun {ds p vs} ew q r e => by
    subst ew
    unfold inL at e
    split at e
    · rename_i x xs e1 e2
      cases e
      have A := vE_ok R h1 e1
      obtain ⟨b1, b2, b3⟩ := vEs_ok R r e2
      refine ⟨_, _, A.1, .tup q b1, A.shaped (by decide), DpK.shaped (X := X) (H := H) (v := .ref p) (k := 21) ⟨.tup q b1, b2, ?_⟩ (by decide), any_toPs x xs⟩
      show PyData.depthAll _ + 1 ≤ 21
      omega
    · cases e
  unfold dInB at e
  split at e
  · obtain ⟨rfl, _⟩ := h2
    split at e
    · cases e
      obtain ⟨rfl, _⟩ := h1
      exact .inl (.inl ⟨_, _, by rw [S_one], rfl, by rw [S_cps]⟩)
    · cases e
      obtain ⟨rfl, _⟩ := h1
      exact .inl (.inr ⟨_, _, rfl, rfl, by rw [S_len]⟩)
    · cases e
  · obtain ⟨p, vs, rfl, q, r⟩ := tup_H R h2
    exact .inr (.inl (.inr (seqT rfl q r e)))
  · split at e
    · rename_i e0
      obtain ⟨p, vs, rfl, q, r⟩ := lof_ok R h2 e0
      exact .inr (.inl (.inl (seqL rfl q r e)))
    · split at e
      · rename_i e0
        simp only [Option.map_eq_some_iff] at e
        obtain ⟨o, e1, rfl⟩ := e
        obtain ⟨a, ov, rfl, g, hs, _⟩ := dLook_ok R h2 h1 e0 e1
        exact .inr (.inr ⟨a, ov, rfl, g, hs⟩)
      · cases e
theorem op2_in : Op2 nm X W dIn (rInA X) := by
  intro env μ σ H ρ G Q d1 d2 v1 v2 R r1 r2 P
  unfold dIn ofB at P
  split at P
  · rename_i k e
    have p := P _ H ρ G .refl R rfl
    rcases dInB_ok R r1 r2 e with (⟨c, z, rfl, rfl, q⟩ | ⟨i, j, rfl, rfl, q⟩) | (⟨d, ds, a1, a2, a3, a4, q⟩ | ⟨d, ds, a1, a2, a3, a4, q⟩) | ⟨a, ov, rfl, g, q⟩
    · exact .inl (.inl ⟨c, z, rfl, rfl, by rw [q]; exact p⟩)
    · exact .inl (.inr ⟨i, j, rfl, rfl, by rw [q]; exact p⟩)
    · exact .inr (.inl (.inl ⟨d, ds, a1, a2, a3, a4, by rw [q]; exact p⟩))
    · exact .inr (.inl (.inr ⟨d, ds, a1, a2, a3, a4, by rw [q]; exact p⟩))
    · exact .inr (.inr ⟨a, ov, rfl, g, by rw [q]; exact p⟩)
  · exact P.elim
theorem op2_notIn : Op2 nm X W dNotIn (rNotInA X) := by
  intro env μ σ H ρ G Q d1 d2 v1 v2 R r1 r2 P
  unfold dNotIn ofB at P
  split at P
  · rename_i k e
    have p := P _ H ρ G .refl R rfl
    simp only [Option.map_eq_some_iff] at e
    obtain ⟨k, e, rfl⟩ := e
    rcases dInB_ok R r1 r2 e with (⟨c, z, rfl, rfl, q⟩ | ⟨i, j, rfl, rfl, q⟩) | (⟨d, ds, a1, a2, a3, a4, q⟩ | ⟨d, ds, a1, a2, a3, a4, q⟩) | ⟨a, ov, rfl, g, q⟩
    · exact .inl (.inl ⟨c, z, rfl, rfl, by rw [q]; exact p⟩)
    · exact .inl (.inr ⟨i, j, rfl, rfl, by rw [q]; exact p⟩)
    · exact .inr (.inl (.inl ⟨d, ds, a1, a2, a3, a4, by rw [q]; exact p⟩))
    · exact .inr (.inl (.inr ⟨d, ds, a1, a2, a3, a4, by rw [q]; exact p⟩))
    · exact .inr (.inr ⟨a, ov, rfl, g, by rw [q]; exact p⟩)
  · exact P.elim
def rIsA : R2 := fun x y H Q => (y = .non ∧ Q (.bl (decide (x = .non))) H) ∨ rIsB x y H Q
def rNotA : R2 := fun x y H Q => (y = .non ∧ Q (.bl (!decide (x = .non))) H) ∨ rNotB x y H Q
theorem opr_is : OpR X (compareOp .Is) rIsA := op_isN.or op_isBl
theorem opr_isNot : OpR X (compareOp .IsNot) rNotA := op_notN.or op_notBl
theorem rep_non {t : Ct} {G : Hp} {ρ : List Addr} {d : D} {v : V} (h : rep t G ρ d v) : decide (v = .non) = (match d with | .non => true | _ => false) := by
  cases d with
  | non => cases h; rfl
  | bl _ => cases h; rfl
  | int _ => cases h; rfl
  | str _ => obtain ⟨rfl, _⟩ := h; rfl
  | tup _ => obtain ⟨_, _, rfl, _⟩ := h; rfl
  | lst _ => obtain ⟨_, _, rfl, _⟩ := h; rfl
  | dic _ => obtain ⟨_, _, rfl, _⟩ := h; rfl
  | scr _ => obtain ⟨_, _, rfl, _⟩ := h; rfl
  | dit _ => obtain ⟨_, _, rfl, _⟩ := h; rfl
  | obj _ _ => obtain ⟨_, _, _, _, rfl, _⟩ := h; rfl
  | ref _ => obtain ⟨_, _, rfl⟩ := h; rfl
theorem op2_is : Op2 nm X W dIs rIsA := by
  intro env μ σ H ρ G Q d1 d2 v1 v2 R r1 r2 P
  cases d2 with
  | non =>
    cases r2
    refine .inl ⟨rfl, ?_⟩
    rw [rep_non r1]
    cases d1 <;> exact P _ H ρ G .refl R rfl
  | bl y =>
    cases r2
    cases d1 with
    | bl x => cases r1; exact .inr ⟨x, y, rfl, rfl, P _ H ρ G .refl R rfl⟩
    | _ => exact P.elim
  | _ => cases d1 <;> exact P.elim
theorem op2_isNot : Op2 nm X W dIsNot rNotA := by
  intro env μ σ H ρ G Q d1 d2 v1 v2 R r1 r2 P
  cases d2 with
  | non =>
    cases r2
    refine .inl ⟨rfl, ?_⟩
    rw [rep_non r1]
    cases d1 <;> exact P _ H ρ G .refl R rfl
  | bl y =>
    cases r2
    cases d1 with
    | bl x => cases r1; exact .inr ⟨x, y, rfl, rfl, P _ H ρ G .refl R rfl⟩
    | _ => exact P.elim
  | _ => cases d1 <;> exact P.elim
end

/-! ### items -/
def dIx : F2 := fun a b μ => match a with
  | .str x => match b with
    | .int i => match atI x i with
      | some c => .ok (.str [c], μ)
      | none => .no
    | _ => .no
  | .tup ds => match b with
    | .int i => match atI ds i with
      | some d => .ok (d, μ)
      | none => .no
    | _ => .no
  | a => match lof a μ with
    | some ds => match b with
      | .int i => match atI ds i with
        | some d => .ok (d, μ)
        | none => .no
      | _ => .no
    | none => match dof a μ with
      | some dd => match dLook dd b with
        | some (some d) => .ok (d, μ)
        | _ => .no
      | none => .no
/-- a cut of a list or text, of its places -/
def cutL {α : Type} (xs : List α) (lo hi : Option Int) : List α := (xs.drop (HT.sIx xs.length 0 lo)).take (HT.sIx xs.length xs.length hi - HT.sIx xs.length 0 lo)
def dSl (fl : Bool) (a : D) (lo hi : Option Int) (μ : Mu) : Res (D × Mu) := match a with
  | .str x => .ok (.str (cutL x lo hi), μ)
  | .tup ds => .ok (.tup (cutL ds lo hi), μ)
  | a => match lof a μ with
    | some ds => .ok (mkL fl (cutL ds lo hi) μ)
    | none => .no
/-- a cut by steps -/
def cutK {α : Type} (xs : List α) (lo hi : Option Int) (st : Int) : List α := (Builtin.Str.strSliceIndices lo hi st xs.length).filterMap (xs[·]?)
def dSlK (st : Int) (a : D) (lo hi : Option Int) (μ : Mu) : Res (D × Mu) := match a with
  | .str x => .ok (.str (cutK x lo hi st), μ)
  | _ => .no
abbrev MO := Ev → Mu → Res (Option Int × Mu)
def oNone : MO := fun _ μ => .ok (none, μ)
def oSome (a : M) : MO := fun env μ => (a env μ).bind fun x => match x.1 with
  | .int i => .ok (some i, x.2)
  | _ => .no
def cSl (fl : Bool) (a : M) (lo hi : MO) : M := fun env μ => (a env μ).bind fun x => (lo env x.2).bind fun l => (hi env l.2).bind fun h => dSl fl x.1 l.1 h.1 h.2
def cSlK (st : Int) (a : M) (lo hi : MO) : M := fun env μ => (a env μ).bind fun x => (lo env x.2).bind fun l => (hi env l.2).bind fun h => dSlK st x.1 l.1 h.1 h.2
theorem IxR.or {X : Cx} {r r' : R2} (h : IxR X r) (h' : IxR X r') : IxR X (fun x y H Q => r x y H Q ∨ r' x y H Q) := by
  intro value slice pins s σ H x y v u Q I rx ry q hs
  rcases q with q | q
  · exact h value slice pins s σ H x y v u Q I rx ry q hs
  · exact h' value slice pins s σ H x y v u Q I rx ry q hs
section
variable {nm : Nm} {X : Cx} {W : XW}
def rIxD : R2 := fun x y H Q => ∃ a v, x = .ref a ∧ DGet H a y (some v) ∧ Q v H
theorem ix_dict (hu : X.A.units + 65 < cLine) : IxR X rIxD := by
  intro value slice pins s σ H x y v u Q I rx ry h hs
  obtain ⟨a, w, rfl, g, q⟩ := h
  cases rx
  have hT := dict_typeIs I g
  have hg : wpAny (model X.prog X.w) X.A (getItem (.ref a) u) (EP X pins σ Q) X.xe s := d_getItem (by omega) I g ry fun w' s3 I3 rw' => ⟨w, H, I3, rw', q⟩
  unfold subscriptTail
  refine wpAny_bind ?_
  rw [getitemInPython_of_ne hT.not_modules]
  refine wpAny_bind (wpAny_specialOf hT PySem.F.slot_dict_getitem.lookup ?_)
  have fin : wpAny (model X.prog X.w) X.A (subscripted slice false (.ref a) u >>= fun r => letTemporaryGo value (.ref a) r >>= fun _ => pure r) (EP X pins σ Q) X.xe s := by
    rw [hs]
    exact wpAny_bind (wpAny_operating (wpAny_mono hg (fun r s₃ h₃ => wpAny_bind (wpAny_letTemporaryGo (wpAny_pure h₃))) fun _ _ x => x))
  first
    | exact wpAny_pure fin
    | exact fin
    | exact wpAny_bind (wpAny_pure fin)
def rIxA (X : Cx) : R2 := fun x y H Q => ((rIxS x y H Q ∨ rIxT X.K x y H Q) ∨ rIxL X.K x y H Q) ∨ rIxD x y H Q
theorem ixr_all (hu : X.A.units + 65 < cLine) : IxR X (rIxA X) := IxR.or (IxR.or (IxR.or ix_str ix_tup) ix_list) (ix_dict hu)
theorem atI_reps {t : Ct} {G : Hp} {ρ : List Addr} {ds : List D} {vs : List V} (h : reps t G ρ ds vs) {i : Int} {d : D} (e : atI ds i = some d) : ∃ v, atI vs i = some v ∧ rep t G ρ d v := by
  unfold atI at e ⊢
  rw [h.length]
  cases q : ixN ds.length i with
  | none => rw [q] at e; cases e
  | some j =>
    rw [q] at e
    exact h.get e
theorem op2_ix : Op2 nm X W dIx (rIxA X) := by
  intro env μ σ H ρ G Q d1 d2 v1 v2 R r1 r2 P
  unfold dIx at P
  split at P
  · obtain ⟨rfl, o⟩ := r1
    split at P
    · cases r2
      split at P
      · rename_i c e
        obtain ⟨j, _, h2, _⟩ := atI_get e
        refine .inl (.inl (.inl ⟨_, _, c, rfl, rfl, by rw [S_len, lineN_eq]; exact okS_len o, by rw [S_cps]; exact e, P _ H ρ G .refl R ⟨rfl, okS_mk (by show 1 ≤ lineN; decide) fun z hz => ?_⟩⟩))
        have hz := List.mem_singleton.mp hz
        subst hz
        exact okS_mem o (List.mem_of_getElem? h2)
      · exact P.elim
    · exact P.elim
  · split at P
    · cases r2
      split at P
      · rename_i d e
        obtain ⟨a, vs, rfl, q, r⟩ := tup_H R r1
        obtain ⟨v, e1, rv⟩ := atI_reps r e
        exact .inl (.inl (.inr ⟨a, vs, _, v, rfl, rfl, q, e1, P _ H ρ G .refl R rv⟩))
      · exact P.elim
    · exact P.elim
  · split at P
    · rename_i e0
      split at P
      · cases r2
        split at P
        · rename_i d e
          obtain ⟨a, vs, rfl, q, r⟩ := lof_ok R r1 e0
          obtain ⟨v, e1, rv⟩ := atI_reps r e
          exact .inl (.inr ⟨a, vs, _, v, rfl, rfl, q, e1, P _ H ρ G .refl R rv⟩)
        · exact P.elim
      · exact P.elim
    · split at P
      · rename_i e0
        split at P
        · rename_i d e1
          obtain ⟨a, ov, rfl, g, _, h⟩ := dLook_ok R r1 r2 e0 e1
          obtain ⟨y, rfl, ry⟩ := h d rfl
          exact .inr ⟨a, y, rfl, g, P _ H ρ G .refl R ry⟩
        · exact P.elim
      · exact P.elim
variable {a b : Expr} {pos p2 : Pos} {ma mb : M} {lo hi : Option Expr} {ml mh : MO}
theorem ev_ix (hu : X.A.units + 65 < cLine) (ha : EV nm X W a ma) (hb : EV nm X W b mb) (hs : PlainIx b := by exact fun _ _ => rfl) : EV nm X W (.Subscript a b pos) (cB dIx ma mb) :=
  ev_of (pe_ix (ixr_all hu) pe_wp pe_wp hs) fun env μ σ H ρ G Q R P => bin_run ha hb op2_ix R P

/-! slices -/
def wpO (X : Cx) (e : Option Expr) : TO := fun σ H Q => ∀ pins s, Inv X pins σ H s → wpAny (model X.prog X.w) X.A (evalPart e X.env) (fun u s' => ∃ o H', Inv X pins σ H' s' ∧ IsPart u o ∧ Q o H') X.xe s
theorem po_wp {e : Option Expr} : PO X e (wpO X e) := ⟨fun pins s σ H Q I h => h pins s I⟩
def KO (t : Ct) (env : Ev) (σ : St) (G : Hp) (ρ : List Addr) (H : Hp) (Q : Option Int → Hp → Prop) (r : Option Int × Mu) : Prop := ∀ H' ρ' G', Ext G ρ H G' ρ' H' → Rel t G' ρ' env r.2 σ H' → Q r.1 H'
structure OV (nm : Nm) (X : Cx) (W : XW) (e : Option Expr) (m : MO) : Prop where
  run : ∀ env μ σ H ρ G Q, Rel (ct nm X) G ρ env μ σ H → Po (m env μ) (KO (ct nm X) env σ G ρ H Q) (KX (ct nm X) W env σ G ρ H) → wpO X e σ H Q
theorem ov_none : OV nm X W none oNone := ⟨fun env μ σ H ρ G Q R P pins s I => po_none.run pins s σ H Q I (P H ρ G .refl R)⟩
theorem ov_some (ha : EV nm X W a ma) : OV nm X W (some a) (oSome ma) := ⟨fun env μ σ H ρ G Q R P pins s I => (po_some pe_wp).run pins s σ H Q I (by
  refine ha.run env μ σ H ρ G _ R ((Po.bind P).imp (fun x hx v H1 ρ1 G1 e1 R1 r1 => ?_) fun _ _ _ h => h)
  obtain ⟨d, μ1⟩ := x
  cases d with
  | int i => cases r1; exact ⟨i, rfl, hx H1 ρ1 G1 e1 R1⟩
  | _ => exact hx.elim)⟩
def rSlA3 (X : Cx) : V → Option Int → Option Int → Hp → VK → Prop := fun x lo hi H Q => (rSlS x lo hi H Q ∨ rSlA X.K x lo hi H Q) ∨ rSlL X.K x lo hi H Q
theorem slr_all : SlR X (rSlA3 X) := SlR.or (SlR.or sl_str sl_tupA) sl_list
theorem cutL_mem {α : Type} {xs : List α} {lo hi : Option Int} {c : α} (h : c ∈ cutL xs lo hi) : c ∈ xs := List.mem_of_mem_drop (List.mem_of_mem_take h)
theorem cutL_len {α : Type} (xs : List α) (lo hi : Option Int) : (cutL xs lo hi).length ≤ xs.length := by
  unfold cutL
  rw [List.length_take, List.length_drop]; omega
theorem cutL_reps {t : Ct} {G : Hp} {ρ : List Addr} {ds : List D} {vs : List V} (h : reps t G ρ ds vs) (lo hi : Option Int) : reps t G ρ (cutL ds lo hi) (cutV vs lo hi) := by
  unfold cutL cutV
  rw [h.length]
  exact (h.drop _).take _
theorem dSl_ok {fl : Bool} {env μ σ H ρ G Q} {d : D} {v : V} {l h : Option Int} (R : Rel (ct nm X) G ρ env μ σ H) (r : rep (ct nm X) G ρ d v) (P : Po (dSl fl d l h μ) (KE (ct nm X) env σ G ρ H Q) (KX (ct nm X) W env σ G ρ H)) : rSlA3 X v l h H Q := by
  unfold dSl at P
  split at P
  · obtain ⟨rfl, o⟩ := r
    refine .inl (.inl ⟨_, rfl, by rw [S_len, lineN_eq]; exact okS_len o, ?_⟩)
    refine P _ H ρ G .refl R ⟨?_, okS_sub o (cutL_len _ _ _) fun c hc => cutL_mem hc⟩
    unfold cutS cutL
    rw [S_cps, S_len]; rfl
  · rename_i ds
    have r0 := r
    obtain ⟨a, vs, rfl, q, rs⟩ := tup_H R r
    refine .inl (.inr ⟨a, vs, rfl, q, fun hw => ?_, fun hw => new_tup R (cutL_reps rs l h) P⟩)
    have e : cutL ds l h = ds := by
      unfold cutL
      rw [← rs.length, hw.1, hw.2, rs.length]
      simp
    have P : KE (ct nm X) env σ G ρ H Q (.tup (cutL ds l h), μ) := P
    rw [e] at P
    exact P _ H ρ G .refl R r0
  · split at P
    · rename_i e0
      obtain ⟨a, vs, rfl, q, rs⟩ := lof_ok R r e0
      exact .inr ⟨a, vs, rfl, q, new_L R (cutL_reps rs l h) P⟩
    · exact P.elim
theorem ev_sl (fl : Bool) (ha : EV nm X W a ma) (hl : OV nm X W lo ml) (hh : OV nm X W hi mh) : EV nm X W (.Subscript a (.Slice lo hi none p2) pos) (cSl fl ma ml mh) :=
  ev_of (pe_slice slr_all pe_wp po_wp po_wp) fun env μ σ H ρ G Q R P => by
  refine ha.run env μ σ H ρ G _ R ((Po.bind P).imp (fun x hx v H1 ρ1 G1 e1 R1 r1 => ?_) fun _ _ _ h => h)
  refine hl.run env x.2 σ H1 ρ1 G1 _ R1 ((Po.bind (Po.reE e1 hx)).imp (fun y hy H2 ρ2 G2 e2 R2 => ?_) fun _ _ _ h => h)
  refine hh.run env y.2 σ H2 ρ2 G2 _ R2 ((Po.bind (Po.reE e2 hy)).imp (fun z hz H3 ρ3 G3 e3 R3 => ?_) fun _ _ _ h => h)
  exact dSl_ok R3 (e3.rep (e2.rep r1)) (Po.reE e3 hz)
/-! x[lo:hi:st] of a text, st a written number -/
theorem cutS_K (x : List Nat) (lo hi : Option Int) (st : Int) : (⟨((Builtin.Str.strSliceIndices lo hi st (S x).length).filterMap ((S x).cps[·]?)).toArray⟩ : Str) = S (cutK x lo hi st) := by
  unfold cutK
  rw [S_len]
  show (⟨_⟩ : Str) = ⟨_⟩
  congr 2
  refine congrArg (fun f => List.filterMap f _) (funext fun i => ?_)
  rw [← Array.getElem?_toList, S_cps]
theorem cutK_mem {α : Type} {xs : List α} {lo hi : Option Int} {st : Int} {c : α} (h : c ∈ cutK xs lo hi st) : c ∈ xs := by
  unfold cutK at h
  obtain ⟨i, _, e⟩ := List.mem_filterMap.mp h
  exact List.mem_of_getElem? e
theorem ev_slK {st : Expr} {n : Int} (h1 : n ≠ 0) (h2 : n ≠ 1) (hst : ∀ (σ : St) (H : Hp), wpO X (some st) σ H (fun o H' => o = some n ∧ H' = H)) (hlen : ∀ (x : List Nat) lo hi, (cutK x lo hi n).length ≤ x.length)
    (ha : EV nm X W a ma) (hl : OV nm X W lo ml) (hh : OV nm X W hi mh) : EV nm X W (.Subscript a (.Slice lo hi (some st) p2) pos) (cSlK n ma ml mh) := by
  refine ⟨fun env μ σ H ρ G Q R P pins s I => ?_⟩
  refine Subscript_ (thn (ha.run env μ σ H ρ G (fun x H1 => wpO X lo σ H1 fun l H2 => wpO X hi σ H2 fun u H3 => ∃ z, x = .str (S z) ∧ z.length ≤ lineN ∧ Q (.str (S (cutK z l u n))) H3) R ?_ pins s I) fun v s1 ⟨x, H1, I1, r1, q1⟩ => ?_)
  · refine (Po.bind P).imp (fun x hx v H1 ρ1 G1 e1 R1 r1 => ?_) fun _ _ _ h => h
    refine hl.run env x.2 σ H1 ρ1 G1 _ R1 ((Po.bind (Po.reE e1 hx)).imp (fun y hy H2 ρ2 G2 e2 R2 => ?_) fun _ _ _ h => h)
    refine hh.run env y.2 σ H2 ρ2 G2 _ R2 ((Po.bind (Po.reE e2 hy)).imp (fun z hz H3 ρ3 G3 e3 R3 => ?_) fun _ _ _ h => h)
    obtain ⟨d, μ1⟩ := x
    cases d with
    | str x =>
      obtain ⟨rfl, o⟩ := r1
      exact ⟨x, rfl, okS_len o, hz _ H3 ρ3 G3 e3 R3 ⟨rfl, okS_sub o (hlen _ _ _) fun c hc => cutK_mem hc⟩⟩
    | _ => exact hz.elim
  · refine wpAny_Slice (thn (q1 pins s1 I1) fun vl s2 ⟨l, H2, I2, pl, q2⟩ => thn (q2 pins s2 I2) fun vu s3 ⟨u, H3, I3, pu, q3⟩ => thn (hst σ H3 pins s3 I3) fun vs s4 ⟨o, H4, I4, ps, eo, e4⟩ => ?_)
    subst eo e4
    obtain ⟨z, rfl, hz, q⟩ := q3
    obtain ⟨t, rfl⟩ := r1
    have I5 : Inv X pins σ H4 { s4 with heap := s4.heap.push { cls := .type "slice", data := .fields #[vl, vu, vs] } } := I4.kept (t' := s4.toks) fun b ob q => Heap.get?_push_of_some _ q
    show wpAny (model X.prog X.w) X.A (subscriptTail a (.Slice lo hi (some st) p2) (.str (S z) t) (.ref s4.heap.objs.size)) (EP X pins σ Q) X.xe { s4 with heap := s4.heap.push { cls := .type "slice", data := .fields #[vl, vu, vs] } }
    obtain ⟨os, hos, hcs, hds⟩ := Heap.IsSliceOf.new s4.heap vl vu vs
    obtain ⟨l', rfl, rfl⟩ := IsPart.raw pl
    obtain ⟨u', rfl, rfl⟩ := IsPart.raw pu
    obtain ⟨k, rfl, hk⟩ := IsPart.raw ps
    cases k with
    | none => cases hk
    | some kt =>
      obtain ⟨k, tk⟩ := kt
      cases hk
      refine tail_any (ops := [.str (S z) t, .ref s4.heap.objs.size]) (typeIs_str _ _ _) F.slot_str_getitem.lookup ?_ (by with_unfolding_all rfl)
      refine wpAny_getItem_str_slice (l := l') (u := u') (st := some (k, tk)) ⟨os, hos, hcs, hds⟩ (by simpa using h1) ?_
      unfold sliceMade slicePicked
      rw [if_neg (by simp [h2])]
      simp only [Option.map_some, Option.getD_some]
      rw [cutS_K]
      refine ⟨?_, .str _, H4, I5.tok _, ⟨_, rfl⟩, q⟩
      rw [S_len]
      exact Nat.le_trans (hlen _ _ _) hz
end
def ngC (d : Int) (o : Option Int) (n : Nat) : Int := match o with
  | none => d
  | some i => max (-1) (min (if i < 0 then i + n else i) (n - 1))
theorem range_neg (a b : Int) : sliceRange a b (-1) = (List.range (a - b).toNat).map (fun k : Nat => (a - k).toNat) := by
  unfold sliceRange
  simp only [show ¬ ((-1 : Int) > 0) by decide, if_false]
  have e : (if a > b then (a - b - -1 - 1) / (- -1) else 0 : Int).toNat = (a - b).toNat := by
    split
    · have : a - b - -1 - 1 = a - b := by omega
      rw [this]; simp
    · omega
  rw [e]
  refine List.map_congr_left fun k _ => ?_
  rw [Int.neg_one_mul, ← Int.sub_eq_add_neg]
theorem idx_neg (lo hi : Option Int) (n : Nat) : Builtin.Str.strSliceIndices lo hi (-1) n = (List.range (ngC (n - 1) lo n - ngC (-1) hi n).toNat).map (fun k : Nat => (ngC (n - 1) lo n - k).toNat) := by
  unfold Builtin.Str.strSliceIndices
  simp only [show ¬ ((-1 : Int) > 0) by decide, if_false]
  rw [← range_neg]
  congr 1
theorem ngC_le (o : Option Int) (n : Nat) : ngC (n - 1) o n ≤ n - 1 := by
  unfold ngC
  cases o with
  | none => simp
  | some i => simp only; omega
theorem ngC_ge (o : Option Int) (n : Nat) : -1 ≤ ngC (-1) o n := by
  unfold ngC
  cases o with
  | none => simp
  | some i => simp only; omega
theorem cutK_neg_len {α : Type} (xs : List α) (lo hi : Option Int) : (cutK xs lo hi (-1)).length ≤ xs.length := by
  unfold cutK
  refine Nat.le_trans (List.length_filterMap_le _ _) ?_
  rw [idx_neg, List.length_map, List.length_range]
  have := ngC_le lo xs.length
  have := ngC_ge hi xs.length
  omega
theorem rev_idx {α : Type} (xs : List α) (m : Nat) (h : m ≤ xs.length) : ((List.range m).map (fun k => m - 1 - k)).filterMap (xs[·]?) = (xs.take m).reverse := by
  induction m with
  | zero => simp
  | succ m ih =>
    have hm : m < xs.length := h
    rw [List.range_succ_eq_map, List.map_cons, List.filterMap_cons, List.map_map]
    have e0 : m + 1 - 1 - 0 = m := by omega
    rw [e0, List.getElem?_eq_getElem hm]
    have e1 : ((fun k => m + 1 - 1 - k) ∘ Nat.succ) = fun k => m - 1 - k := by
      funext k; simp; omega
    rw [e1, ih (by omega), List.take_succ_eq_append_getElem hm, List.reverse_append]
    rfl
theorem ngC_none (d : Int) (n : Nat) : ngC d none n = d := rfl
theorem ngC_some (d : Int) (n k : Nat) (h : k < n) : ngC d (some (k : Int)) n = k := by unfold ngC; simp only; omega
/-- x[k::-1] -/
theorem cutK_from {α : Type} (xs : List α) (k : Nat) (h : k < xs.length) : cutK xs (some (k : Int)) none (-1) = (xs.take (k + 1)).reverse := by
  unfold cutK
  rw [idx_neg, ← rev_idx xs (k + 1) (by omega)]
  rw [ngC_some _ _ _ h, ngC_none]
  have e2 : ((k : Int) - -1).toNat = k + 1 := by omega
  rw [e2]
  congr 1
  refine List.map_congr_left fun j hj => ?_
  omega
/-- x[::-1] -/
theorem cutK_rev {α : Type} (xs : List α) : cutK xs none none (-1) = xs.reverse := by
  unfold cutK
  rw [idx_neg]
  have h := rev_idx xs xs.length (Nat.le_refl _)
  rw [List.take_length] at h
  rw [← h]
  rw [ngC_none, ngC_none]
  have e2 : ((xs.length : Int) - 1 - -1).toNat = xs.length := by omega
  rw [e2]
  congr 1
  refine List.map_congr_left fun j hj => ?_
  omega
section
variable {nm : Nm} {X : Cx} {W : XW} {a : Expr} {pos p2 p3 p4 : Pos} {ma : M} {lo hi : Option Expr} {ml mh : MO} {k : Nat}
theorem ev_slR (ha : EV nm X W a ma) (hl : OV nm X W lo ml) (hh : OV nm X W hi mh) : EV nm X W (.Subscript a (.Slice lo hi (some (.UnaryOp .USub (.Constant (.int 1) k p3) p4)) p2) pos) (cSlK (-1) ma ml mh) :=
  ev_slK (by decide) (by decide) (fun σ H pins s I => (po_some (pe_un un_neg pe_int)).run pins s σ H (fun o H4 => o = some (-1) ∧ H4 = H) I ⟨1, rfl, -1, rfl, rfl, rfl⟩) (fun x lo hi => cutK_neg_len x lo hi) ha hl hh
end
end Lr

/-! Lr, part 5: statements, targets, loops. -/
namespace Lr
open PySem L2

inductive Ot where
  | nx (e : Ev) (μ : Mu) | rt (d : D) (μ : Mu) | bk (e : Ev) (μ : Mu) | ct (e : Ev) (μ : Mu) | xc (c : Nat) (ds : List D) (e : Ev) (μ : Mu)
/-- a statement's meaning -/
abbrev SM := Ev → Mu → Option Ot
def wpS (X : Cx) (st : Stmt) : TS := fun D σ H => ∀ pins s, Inv X pins σ H s → wpAny (model X.prog X.w) X.A (exec st X.env) (SP X pins D) X.xe s
def wpSs (X : Cx) (st : List Stmt) : TS := fun D σ H => ∀ pins s, Inv X pins σ H s → wpAny (model X.prog X.w) X.A (execs st X.env) (SP X pins D) X.xe s
def wpG (X : Cx) (tg : Expr) : TG := fun v σ H Q => ∀ pins s u, Inv X pins σ H s → RelV v u → wpAny (model X.prog X.w) X.A (assign tg X.env u) (fun _ s' => ∃ σ' H', Inv X pins σ' H' s' ∧ Q σ' H') X.xe s
def wpI (X : Cx) (tg iter : Expr) : TI := fun σ H R => ∀ pins s, Inv X pins σ H s → wpAny (model X.prog X.w) X.A (eval iter X.env) (fun v s1 => wpAny (model X.prog X.w) X.A (pyIter v) (PIE X pins σ tg R) X.xe s1) X.xe s
section
variable {X : Cx} {st : Stmt} {sts : List Stmt} {tg iter : Expr}
theorem ps_wp : PS X st (wpS X st) := ⟨fun pins s σ H D I h => h pins s I⟩
theorem pss_wp : PSs X sts (wpSs X sts) := ⟨fun pins s σ H D I h => h pins s I⟩
theorem pg_wp : PG X tg (wpG X tg) := ⟨fun pins s σ H v u Q I r h => h pins s u I r⟩
theorem pi_wp : PI X tg iter (wpI X tg iter) := ⟨fun pins s σ H R I h => h pins s I⟩
theorem to_s {t : TS} (p : PS X st t) {D σ H} (h : t D σ H) : wpS X st D σ H := fun pins s I => p.run pins s σ H D I h
theorem to_ss {t : TS} (p : PSs X sts t) {D σ H} (h : t D σ H) : wpSs X sts D σ H := fun pins s I => p.run pins s σ H D I h
theorem to_i {t : TI} (p : PI X tg iter t) {σ H R} (h : t σ H R) : wpI X tg iter σ H R := fun pins s I => p.run pins s σ H R I h
end

section
variable (t : Ct) (W : XW) (G : Hp) (ρ : List Addr) (H : Hp) (D : Ends)
def KS : Ot → Prop
  | .nx e μ => ∀ σ' H' ρ' G', Ext G ρ H G' ρ' H' → Rel t G' ρ' e μ σ' H' → D.nx σ' H'
  | .rt d μ => ∀ v H' ρ' G', Ext G ρ H G' ρ' H' → Rel t G' ρ' [] μ [] H' → rep t G' ρ' d v → D.rt v H'
  | .bk e μ => ∀ σ' H' ρ' G', Ext G ρ H G' ρ' H' → Rel t G' ρ' e μ σ' H' → D.bk σ' H'
  | .ct e μ => ∀ σ' H' ρ' G', Ext G ρ H G' ρ' H' → Rel t G' ρ' e μ σ' H' → D.ct σ' H'
  | .xc c ds e μ => ∀ C dx σ' H' ρ' G', t.mg (t.nm.cn c) = some (.ref C) → Ext G ρ H G' ρ' H' → Rel t G' ρ' e μ σ' H' → xfs t G' ρ' H' c ds dx → W (.ref C) dx σ' H'
end
def PoS {α : Type} (r : Option α) (k : α → Prop) : Prop := match r with
  | some a => k a
  | none => False
section
variable {t : Ct} {W : XW} {env : Ev} {σ : St} {G G' : Hp} {ρ ρ' : List Addr} {H H' : Hp} {D D' : Ends}
theorem KS.re (e : Ext G ρ H G' ρ' H') {o : Ot} (h : KS t W G ρ H D o) : KS t W G' ρ' H' D o := by
  cases o with
  | nx => exact fun σ' H2 ρ2 G2 x => h σ' H2 ρ2 G2 (e.trans x)
  | rt => exact fun v H2 ρ2 G2 x => h v H2 ρ2 G2 (e.trans x)
  | bk => exact fun σ' H2 ρ2 G2 x => h σ' H2 ρ2 G2 (e.trans x)
  | ct => exact fun σ' H2 ρ2 G2 x => h σ' H2 ρ2 G2 (e.trans x)
  | xc => exact fun C dx σ' H2 ρ2 G2 m x => h C dx σ' H2 ρ2 G2 m (e.trans x)
theorem PoS.re (e : Ext G ρ H G' ρ' H') {o : Option Ot} (h : PoS o (KS t W G ρ H D)) : PoS o (KS t W G' ρ' H' D) := by
  cases o with
  | none => exact h
  | some o => exact KS.re e h
theorem Rel.bare {μ : Mu} (R : Rel t G ρ env μ σ H) : Rel t G ρ [] μ [] H := R.reslot rfl fun i d e => by simp at e
end
structure SV (nm : Nm) (X : Cx) (W : XW) (st : Stmt) (m : SM) : Prop where
  run : ∀ env μ σ H ρ G D, Rel (ct nm X) G ρ env μ σ H → PoS (m env μ) (KS (ct nm X) W G ρ H D) → wpS X st D σ H
structure BV (nm : Nm) (X : Cx) (W : XW) (sts : List Stmt) (m : SM) : Prop where
  run : ∀ env μ σ H ρ G D, Rel (ct nm X) G ρ env μ σ H → PoS (m env μ) (KS (ct nm X) W G ρ H D) → wpSs X sts D σ H

/-! ### meanings -/
def sNext : SM := fun e μ => some (.nx e μ)
def sSeq (a b : SM) : SM := fun e μ => match a e μ with
  | some (.nx e' μ') => b e' μ'
  | r => r
/-- from an expression's result on -/
def eThen {α : Type} (r : Res α) (e : Ev) (k : α → Option Ot) : Option Ot := match r with
  | .ok a => k a
  | .ex c ds μ => some (.xc c ds e μ)
  | .no => none
def sExpr (a : M) : SM := fun e μ => eThen (a e μ) e fun x => some (.nx e x.2)
def sRet (a : M) : SM := fun e μ => eThen (a e μ) e fun x => some (.rt x.1 x.2)
def sRetN : SM := fun _ μ => some (.rt .non μ)
def sBrk : SM := fun e μ => some (.bk e μ)
def sCnt : SM := fun e μ => some (.ct e μ)
def sIf (c : MT) (a b : SM) : SM := fun e μ => eThen (c e μ) e fun x => if x.1 then a e x.2 else b e x.2
def sSet (i : Nat) (a : M) : SM := fun e μ => eThen (a e μ) e fun x => some (.nx (e.set i (some x.1)) x.2)
inductive Tg where
  | nm (i : Nat) | tp (ts : List Tg)
mutual
def setT : Tg → D → Ev → Option Ev
  | .nm i, d, e => some (e.set i (some d))
  | .tp ts, .tup ds, e => setTs ts ds e
  | .tp _, _, _ => none
def setTs : List Tg → List D → Ev → Option Ev
  | [], [], e => some e
  | t :: ts, d :: ds, e => match setT t d e with
    | some e' => setTs ts ds e'
    | none => none
  | _, _, _ => none
end
def sAsg (T : Tg) (a : M) : SM := fun e μ => eThen (a e μ) e fun x => (setT T x.1 e).map fun e' => .nx e' x.2

/-! what a loop walks -/
inductive Src where
  | live (d : D) | fix (ds : List D)
def items (s : Src) (μ : Mu) : Option (List D) := match s with
  | .live d => lof d μ
  | .fix ds => some ds
abbrev MI := Ev → Mu → Res (Src × Mu)
def iVal (a : M) : MI := fun e μ => (a e μ).bind fun x => match x.1 with
  | .str s => .ok (.fix (s.map fun c => .str [c]), x.2)
  | .tup ds => .ok (.fix ds, x.2)
  | .lst ds => .ok (.fix ds, x.2)
  | .scr ds => .ok (.fix ds, x.2)
  | .ref n => match x.2[n]? with
    | some (.lst _) => .ok (.live (.ref n), x.2)
    | _ => .no
  | _ => .no
def okR (i : Int) : Prop := -(2 ^ 62) ≤ i ∧ i < 2 ^ 62
instance {i} : Decidable (okR i) := by unfold okR; infer_instance
def rangeD (lo : Int) (n : Nat) : List D := (List.range n).map fun i => .int (lo + (i : Nat))
def iRange1 (ms : MA) : MI := fun e μ => (ms e μ).bind fun x => match x.1 with
  | [.int j] => if okR j then .ok (.fix (rangeD 0 j.toNat), x.2) else .no
  | _ => .no
def iRange2 (ms : MA) : MI := fun e μ => (ms e μ).bind fun x => match x.1 with
  | [.int i, .int j] => if okR i ∧ okR j then .ok (.fix (rangeD i (j - i).toNat), x.2) else .no
  | _ => .no
def forGo (T : Tg) (b : SM) (s : Src) : Nat → Nat → Ev → Mu → Option Ot
  | 0, _, _, _ => none
  | f + 1, i, e, μ => match items s μ with
    | none => none
    | some ds => match ds[i]? with
      | none => some (.nx e μ)
      | some d => match setT T d e with
        | none => none
        | some e1 => match b e1 μ with
          | some (.nx e2 μ2) => forGo T b s f (i + 1) e2 μ2
          | some (.ct e2 μ2) => forGo T b s f (i + 1) e2 μ2
          | some (.bk e2 μ2) => some (.nx e2 μ2)
          | r => r
theorem fuel_ex : ∃ n : Nat, 16777300 ≤ n := ⟨16777300, Nat.le_refl _⟩
noncomputable def fuel : Nat := Classical.choose fuel_ex
theorem fuel_ge : 16777300 ≤ fuel := Classical.choose_spec fuel_ex
noncomputable def sFor (T : Tg) (it : MI) (b : SM) : SM := fun e μ => eThen (it e μ) e fun x => forGo T b x.1 fuel 0 e x.2
def whGo (c : MT) (b : SM) : Nat → Ev → Mu → Option Ot
  | 0, _, _ => none
  | f + 1, e, μ => eThen (c e μ) e fun x => if x.1 then match b e x.2 with
      | some (.nx e2 μ2) => whGo c b f e2 μ2
      | some (.ct e2 μ2) => whGo c b f e2 μ2
      | some (.bk e2 μ2) => some (.nx e2 μ2)
      | r => r
    else some (.nx e x.2)
noncomputable def sWhile (c : MT) (b : SM) : SM := fun e μ => whGo c b fuel e μ

section
variable {nm : Nm} {X : Cx} {W : XW} {a b c e : Expr} {st : Stmt} {sts s2 : List Stmt} {pos : Pos} {ma mb : M} {mt : MT} {m k : SM}
/-- from an expression on -/
theorem eT {α : Type} {r : Res α} {env : Ev} {kk : α → Option Ot} {t : Ct} {G ρ H σ} {D : Ends} {μ0 : Mu} (R : Rel t G ρ env μ0 σ H) (P : PoS (eThen r env kk) (KS t W G ρ H D)) : Po r (fun a => PoS (kk a) (KS t W G ρ H D)) (KX t W env σ G ρ H) := by
  cases r with
  | ok a => exact P
  | ex c ds μ => exact fun C dx H' ρ' G' m x R' q => P C dx σ H' ρ' G' m x R' q
  | no => exact P
theorem eT2 {α : Type} {r : Res α} {env : Ev} {kk : α → Option Ot} {t : Ct} {G ρ H G0 ρ0 H0 σ} {D : Ends} (e : Ext G0 ρ0 H0 G ρ H) (P : PoS (eThen r env kk) (KS t W G0 ρ0 H0 D)) : Po r (fun a => PoS (kk a) (KS t W G0 ρ0 H0 D)) (KX t W env σ G ρ H) := by
  cases r with
  | ok a => exact P
  | ex c ds μ => exact fun C dx H' ρ' G' m x R' q => P C dx σ H' ρ' G' m (e.trans x) R' q
  | no => exact P
theorem bv_nil : BV nm X W [] sNext := ⟨fun env μ σ H ρ G D R P => to_ss pss_nil (P σ H ρ G .refl R)⟩
theorem bv_cons (h1 : SV nm X W st m) (h2 : BV nm X W sts k) : BV nm X W (st :: sts) (sSeq m k) := ⟨fun env μ σ H ρ G D R P => to_ss (pss_cons ps_wp pss_wp) (by
  refine h1.run env μ σ H ρ G _ R ?_
  unfold sSeq at P
  split at P
  · rename_i e' μ' q
    rw [q]
    exact fun σ' H' ρ' G' x R' => h2.run e' μ' σ' H' ρ' G' D R' (PoS.re x P)
  · rename_i r q
    cases h : m env μ with
    | none => rw [h] at P; exact P
    | some o =>
      rw [h] at P q
      cases o with
      | nx e' μ' => exact absurd rfl (q e' μ')
      | _ => exact P)⟩
theorem bv_one (h1 : SV nm X W st m) : BV nm X W [st] m := ⟨fun env μ σ H ρ G D R P => to_ss (pss_one ps_wp) (h1.run env μ σ H ρ G D R P)⟩
theorem sv_expr (ha : EV nm X W a ma) (hs : swapsWith a none pos.line X.env = pure false := by rfl) : SV nm X W (.Expr a pos) (sExpr ma) := ⟨fun env μ σ H ρ G D R P => to_s (ps_expr pe_wp hs) (by
  exact ha.run env μ σ H ρ G _ R ((eT R P).imp (fun x hx v H1 ρ1 G1 e1 R1 _ => hx σ H1 ρ1 G1 e1 R1) fun _ _ _ h => h))⟩
theorem sv_ret (ha : EV nm X W a ma) : SV nm X W (.Return (some a) pos) (sRet ma) := ⟨fun env μ σ H ρ G D R P => to_s (ps_ret pe_wp) (by
  exact ha.run env μ σ H ρ G _ R ((eT R P).imp (fun x hx v H1 ρ1 G1 e1 R1 r => hx v H1 ρ1 G1 e1 R1.bare r) fun _ _ _ h => h))⟩
theorem sv_retN : SV nm X W (.Return none pos) sRetN := ⟨fun env μ σ H ρ G D R P => to_s ps_retN (P _ H ρ G .refl R.bare rfl)⟩
theorem sv_pass : SV nm X W (.Pass pos) sNext := ⟨fun env μ σ H ρ G D R P => to_s ps_pass (P σ H ρ G .refl R)⟩
theorem sv_brk : SV nm X W (.Break pos) sBrk := ⟨fun env μ σ H ρ G D R P => to_s ps_break (P σ H ρ G .refl R)⟩
theorem sv_cnt : SV nm X W (.Continue pos) sCnt := ⟨fun env μ σ H ρ G D R P => to_s ps_continue (P σ H ρ G .refl R)⟩
theorem sv_if (hc : TV nm X W c mt) (ha : BV nm X W sts m) (hb : BV nm X W s2 k) : SV nm X W (.If c sts s2 pos) (sIf mt m k) := ⟨fun env μ σ H ρ G D R P => to_s (ps_if pt_wp pss_wp pss_wp) (by
  refine hc.run env μ σ H ρ G _ R ((eT R P).imp (fun x hx H1 ρ1 G1 e1 R1 => ?_) fun _ _ _ h => h)
  obtain ⟨z, μ'⟩ := x
  cases z with
  | true => exact iteT (ha.run env μ' σ H1 ρ1 G1 D R1 (PoS.re e1 hx))
  | false => exact iteF (hb.run env μ' σ H1 ρ1 G1 D R1 (PoS.re e1 hx)))⟩
theorem sv_set {i : Nat} {x : Str} {pos' : Pos} (hN : X.N.Nodup) (he : EV nm X W e ma) (hi : X.N[i]? = some x := by rfl) (hx : Loc X.env.scope x := by first | exact Or.inl rfl | exact Or.inr rfl) (hs : swapsWith e (some (.Name x pos')) pos.line X.env = pure false := by rfl) (hf : X.fn x = true ∨ X.env.scope.names.lookup x = some .local := by first | exact .inl rfl | exact .inr rfl | assumption) :
    SV nm X W (.Assign [.Name x pos'] e pos) (sSet i ma) := ⟨fun env μ σ H ρ G D R P => to_s (ps_set hN hi hx pe_wp hs hf) (by
  exact he.run env μ σ H ρ G _ R ((eT R P).imp (fun x hx v H1 ρ1 G1 e1 R1 r => hx _ H1 ρ1 G1 e1 (R1.setSlot r)) fun _ _ _ h => h))⟩

/-! targets -/
mutual
def Tg.slots : Tg → List Nat
  | .nm i => [i]
  | .tp ts => Tg.slotss ts
def Tg.slotss : List Tg → List Nat
  | [] => []
  | t :: ts => Tg.slots t ++ Tg.slotss ts
end
/-- nothing but these slots is stored -/
def Wiped (ss : List Nat) (σ σ' : St) : Prop := ∀ vs : List Nat, (∀ i ∈ ss, i ∈ vs) → wipe σ' vs = wipe σ vs
theorem wiped_set {σ : St} {i : Nat} {o : Option V} : Wiped [i] σ (σ.set i o) := by
  intro vs h
  have hi : i ∈ vs := h i (by simp)
  refine List.ext_getElem? fun j => ?_
  by_cases hj : j ∈ vs
  · have key : ∀ τ : St, τ.length = σ.length → (wipe τ vs)[j]? = if j < σ.length then some none else none := fun τ hl => by
      by_cases hlt : j < σ.length
      · rw [if_pos hlt]
        have hw : j < (wipe τ vs).length := by rw [wipe_length, hl]; exact hlt
        cases q : (wipe τ vs)[j]? with
        | none => rw [List.getElem?_eq_none_iff] at q; omega
        | some o =>
          cases o with
          | none => rfl
          | some x => exact absurd hj (wipe_some q).2
      · rw [if_neg hlt, List.getElem?_eq_none_iff, wipe_length, hl]; omega
    rw [key _ (by simp), key σ rfl]
  · rw [wipe_out hj, wipe_out hj, List.getElem?_set_ne (fun e => hj (by rw [← e]; exact hi))]
structure GV (nm : Nm) (X : Cx) (tg : Expr) (T : Tg) : Prop where
  run : ∀ env μ σ H ρ G d v env' Q, Rel (ct nm X) G ρ env μ σ H → rep (ct nm X) G ρ d v → setT T d env = some env' → (∀ σ', Rel (ct nm X) G ρ env' μ σ' H → Wiped T.slots σ σ' → Q σ' H) → wpG X tg v σ H Q
structure GVs (nm : Nm) (X : Cx) (tgs : List Expr) (Ts : List Tg) : Prop where
  run : ∃ t, PGs X tgs t ∧ ∀ env μ σ H ρ G ds vs env' Q, Rel (ct nm X) G ρ env μ σ H → reps (ct nm X) G ρ ds vs → setTs Ts ds env = some env' → (∀ σ', Rel (ct nm X) G ρ env' μ σ' H → Wiped (Tg.slotss Ts) σ σ' → Q σ' H) → t vs σ H Q
theorem gv_name (i : Nat) {x : Str} (hN : X.N.Nodup) (hi : X.N[i]? = some x := by rfl) (hx : Loc X.env.scope x := by first | exact Or.inl rfl | exact Or.inr rfl) (hf : X.fn x = true ∨ X.env.scope.names.lookup x = some .local := by first | exact .inl rfl | exact .inr rfl | assumption) :
    GV nm X (.Name x pos) (.nm i) := ⟨fun env μ σ H ρ G d v env' Q R r e h pins s u I ru => (pg_name hN hi hx hf).run pins s σ H v u Q I ru (by
  cases e
  exact h _ (R.setSlot r) wiped_set)⟩
theorem gvs_nil : GVs nm X [] [] := ⟨_, pgs_nil, fun env μ σ H ρ G ds vs env' Q R r e h => by
  cases ds with
  | nil =>
    cases r
    cases e
    exact ⟨rfl, h σ R fun _ _ => rfl⟩
  | cons d ds => cases e⟩
theorem gvs_cons {x : Expr} {xs : List Expr} {T : Tg} {Ts : List Tg} (h1 : GV nm X x T) (h2 : GVs nm X xs Ts) (hs : (assignEach (x :: xs) X.env).map (·.2) = assign x X.env :: (assignEach xs X.env).map (·.2) := by rfl) : GVs nm X (x :: xs) (T :: Ts) := by
  obtain ⟨t, p, k⟩ := h2.run
  refine ⟨_, pgs_cons pg_wp p hs, fun env μ σ H ρ G ds vs env' Q R r e h => ?_⟩
  cases ds with
  | nil => cases e
  | cons d ds =>
    obtain ⟨v, vr, rfl, r1, r2⟩ := r
    unfold setTs at e
    cases q : setT T d env with
    | none => rw [q] at e; cases e
    | some e1 =>
      rw [q] at e
      exact ⟨v, vr, rfl, h1.run env μ σ H ρ G d v e1 _ R r1 q fun σ' R' w => k e1 μ σ' H ρ G ds vr env' Q R' r2 e fun σ2 R2 w2 => h σ2 R2 fun vs hs => (w2 vs fun i hi => hs i (List.mem_append_right _ hi)).trans (w vs fun i hi => hs i (List.mem_append_left _ hi))⟩
theorem setTs_len : ∀ {Ts : List Tg} {ds : List D} {e e' : Ev}, setTs Ts ds e = some e' → ds.length = Ts.length := by
  intro Ts
  induction Ts with
  | nil =>
    intro ds e e' h
    cases ds with
    | nil => rfl
    | cons => cases h
  | cons T Ts ih =>
    intro ds e e' h
    cases ds with
    | nil => cases h
    | cons d ds =>
      unfold setTs at h
      split at h
      · rw [List.length_cons, List.length_cons, ih h]
      · cases h
theorem gv_tup {xs : List Expr} {k : Nat} {Ts : List Tg} (hc : X.calm = true) (h : GVs nm X xs Ts) (hn : (assignEach xs X.env).length = Ts.length := by rfl) (hst : (assignEach xs X.env).findIdx? (·.1) = none := by rfl) : GV nm X (.Tuple xs k pos) (.tp Ts) := by
  obtain ⟨t, p, q⟩ := h.run
  refine ⟨fun env μ σ H ρ G d v env' Q R r e h pins s u I ru => (pg_tup hc p hn hst).run pins s σ H v u Q I ru ?_⟩
  cases d with
  | tup ds =>
    obtain ⟨a, vs, rfl, q1, r1⟩ := tup_H R r
    exact ⟨a, vs, rfl, q1, by rw [r1.length, setTs_len e], q env μ σ H ρ G ds vs env' Q R r1 e h⟩
  | _ => cases e
theorem sv_asg {tg : Expr} {T : Tg} (he : EV nm X W e ma) (hg : GV nm X tg T) (hs : swapsWithSole [tg] e pos.line X.env = pure false := by rfl) (hw : swappedStores [tg] e X.env = pure none := by rfl)
    (h1 : (assignEach [tg] X.env).map (·.2) = [assign tg X.env] := by rfl) : SV nm X W (.Assign [tg] e pos) (sAsg T ma) := ⟨fun env μ σ H ρ G D R P => to_s (ps_asg pe_wp pg_wp hs hw h1) (by
  refine he.run env μ σ H ρ G _ R ((eT R P).imp (fun x hx v H1 ρ1 G1 e1 R1 r => ?_) fun _ _ _ h => h)
  cases q : setT T x.1 env with
  | none => rw [q] at hx; exact hx.elim
  | some env' =>
    rw [q] at hx
    exact hg.run env x.2 σ H1 ρ1 G1 x.1 v env' _ R1 r q fun σ' R' _ => hx σ' H1 ρ1 G1 e1 R')⟩
end

/-! ### loops -/
/-- what J yields is what the source has -/
def SrcOk (t : Ct) (G : Hp) (ρ : List Addr) (H : Hp) (s : Src) (J : It) : Prop := ∀ (i : Nat) G1 ρ1 env1 μ1 σ1 H1 xs, Ext G ρ H G1 ρ1 H1 → Rel t G1 ρ1 env1 μ1 σ1 H1 → items s μ1 = some xs →
  (∀ d, xs[i]? = some d → J.go i H1 ∧ ∀ x H2, J.yld i H1 x H2 → ∃ G2, Ext G1 ρ1 H1 G2 ρ1 H2 ∧ Rel t G2 ρ1 env1 μ1 σ1 H2 ∧ rep t G2 ρ1 d x) ∧ (xs[i]? = none → J.stop i H1)
def KI (t : Ct) (env : Ev) (σ : St) (G : Hp) (ρ : List Addr) (H : Hp) (R : It → Hp → Prop) (r : Src × Mu) : Prop := ∀ J H' ρ' G', Ext G ρ H G' ρ' H' → Rel t G' ρ' env r.2 σ H' → SrcOk t G' ρ' H' r.1 J → R J H'
structure IV (nm : Nm) (X : Cx) (W : XW) (tg it : Expr) (m : MI) : Prop where
  run : ∀ env μ σ H ρ G R, Rel (ct nm X) G ρ env μ σ H → Po (m env μ) (KI (ct nm X) env σ G ρ H R) (KX (ct nm X) W env σ G ρ H) → wpI X tg it σ H R
section
variable {t : Ct} {G H : Hp} {ρ : List Addr}
theorem src_fixL {a : Addr} {vs : List V} {ds : List D} (hq : SqL t.K G a vs) (r : reps t G ρ ds vs) : SrcOk t G ρ H (.fix ds) (Itl t.K a) := by
  intro i G1 ρ1 env1 μ1 σ1 H1 xs e R h
  cases h
  have q1 : SqL t.K H1 a vs := Same.seq (e.sub.trans R.sub) hq
  have r1 := e.reps r
  refine ⟨fun d hd => ?_, fun hn => ⟨vs, q1, ?_⟩⟩
  · obtain ⟨v, hv, rv⟩ := r1.get hd
    refine ⟨⟨vs, v, q1, hv⟩, fun x H2 ⟨e1, hx⟩ => ?_⟩
    subst e1
    rw [hx vs q1] at hv
    cases hv
    exact ⟨G1, .refl, R, rv⟩
  · rw [r1.length]
    exact List.getElem?_eq_none_iff.mp hn
theorem src_tup {a : Addr} {vs : List V} {ds : List D} (hq : SqT t.K G a vs) (r : reps t G ρ ds vs) : SrcOk t G ρ H (.fix ds) (Itt t.K a) := by
  intro i G1 ρ1 env1 μ1 σ1 H1 xs e R h
  cases h
  have q1 : SqT t.K H1 a vs := Same.seqT (e.sub.trans R.sub) hq
  have r1 := e.reps r
  refine ⟨fun d hd => ?_, fun hn => ⟨vs, q1, ?_⟩⟩
  · obtain ⟨v, hv, rv⟩ := r1.get hd
    refine ⟨⟨vs, v, q1, hv⟩, fun x H2 ⟨e1, hx⟩ => ?_⟩
    subst e1
    rw [hx vs q1] at hv
    cases hv
    exact ⟨G1, .refl, R, rv⟩
  · rw [r1.length]
    exact List.getElem?_eq_none_iff.mp hn
theorem src_list {d0 : D} {v : V} {a : Addr} (hv : rep t G ρ d0 v) (ev : v = .ref a) (hl : ∀ G1 ρ1 env1 μ1 σ1 H1 xs, Rel t G1 ρ1 env1 μ1 σ1 H1 → rep t G1 ρ1 d0 v → lof d0 μ1 = some xs → ∃ vs, SqL t.K H1 a vs ∧ reps t G1 ρ1 xs vs) : SrcOk t G ρ H (.live d0) (Itl t.K a) := by
  intro i G1 ρ1 env1 μ1 σ1 H1 xs e R h
  obtain ⟨vs, q1, r1⟩ := hl G1 ρ1 env1 μ1 σ1 H1 xs R (e.rep hv) h
  refine ⟨fun d hd => ?_, fun hn => ⟨vs, q1, ?_⟩⟩
  · obtain ⟨w, hw, rv⟩ := r1.get hd
    refine ⟨⟨vs, w, q1, hw⟩, fun x H2 ⟨e1, hx⟩ => ?_⟩
    subst e1
    rw [hx vs q1] at hw
    cases hw
    exact ⟨G1, .refl, R, rv⟩
  · rw [r1.length]
    exact List.getElem?_eq_none_iff.mp hn
theorem src_str {z : List Nat} (o : okS z = true) : SrcOk t G ρ H (.fix (z.map fun c => .str [c])) (Its (S z)) := by
  intro i G1 ρ1 env1 μ1 σ1 H1 xs e R h
  cases h
  have sz : (S z).cps.size = z.length := by simp [S]
  refine ⟨fun d hd => ?_, fun hn => ?_⟩
  · rw [List.getElem?_map] at hd
    cases q : z[i]? with
    | none => rw [q] at hd; cases hd
    | some c =>
      rw [q] at hd
      cases hd
      have hi := (List.getElem?_eq_some_iff.mp q).1
      refine ⟨(show i < (S z).cps.size by rw [sz]; exact hi), fun x H2 ⟨e1, c', e2, e3⟩ => ?_⟩
      subst e1
      have : (S z).cps[i]? = some c := by
        rw [← Array.getElem?_toList, S_cps]; exact q
      rw [this] at e2
      cases e2
      exact ⟨G1, .refl, R, e3, okS_mk (by show 1 ≤ lineN; decide) fun w hw => by
        have hw := List.mem_singleton.mp hw
        subst hw
        exact okS_mem o (List.mem_of_getElem? q)⟩
  · have := List.getElem?_eq_none_iff.mp hn
    rw [List.length_map] at this
    show (S z).cps.size ≤ i
    rw [sz]; exact this
theorem src_range {lo : Int} {n : Nat} : SrcOk t G ρ H (.fix (rangeD lo n)) (Itr lo n) := by
  intro i G1 ρ1 env1 μ1 σ1 H1 xs e R h
  cases h
  unfold rangeD
  refine ⟨fun d hd => ?_, fun hn => ?_⟩
  · rw [List.getElem?_map] at hd
    by_cases hi : i < n
    · rw [List.getElem?_range hi] at hd
      cases hd
      exact ⟨hi, fun x H2 ⟨e1, e2⟩ => by subst e1; exact ⟨G1, .refl, R, e2⟩⟩
    · rw [List.getElem?_eq_none (by simp; omega)] at hd
      cases hd
  · have := List.getElem?_eq_none_iff.mp hn
    simp at this
    exact this
end
section
variable {nm : Nm} {X : Cx} {W : XW} {a b tg it : Expr} {sts : List Stmt} {pos p : Pos} {ma mb : M} {mt : MT} {mi : MI} {m : SM} {T : Tg}
theorem pi_any {l : Expr} : PI X tg l (fun σ H R => wpE X l σ H fun x H1 => (∃ a, x = .ref a ∧ (∃ xs, SqL X.K H1 a xs) ∧ R (Itl X.K a) H1) ∨ (∃ a, x = .ref a ∧ (∃ xs, SqT X.K H1 a xs) ∧ R (Itt X.K a) H1) ∨ ∃ z, x = .str z ∧ R (Its z) H1) := by
  refine ⟨fun pins s σ H R I h => ?_⟩
  refine thn (h pins s I) fun v s1 ⟨x, H1, I1, r1, q⟩ => ?_
  rcases q with ⟨a, rfl, ⟨xs, hq⟩, q⟩ | ⟨a, rfl, ⟨xs, hq⟩, q⟩ | ⟨z, rfl, q⟩
  · cases r1
    obtain ⟨its, rv, p, hz⟩ := I1.list hq
    refine wpAny_pyIter_list p.isList ?_
    refine ⟨s1.heap.objs.size, [s1.heap.objs.size], _, _, H1, rfl, I1.kept (t' := s1.toks) fun b o e => Heap.get?_push_of_some _ e, turn_list a _, ⟨_, Heap.get?_push_size _ rfl, rfl, rfl⟩, fun b hb => ?_, q⟩
    have e : b = s1.heap.objs.size := by simpa using hb
    subst e
    exact I1.fpOk (Nat.le_refl _) (I1.hok.fresh (Nat.le_refl _))
  · cases r1
    obtain ⟨its, rv, p, hz⟩ := I1.tuple hq
    refine wpAny_pyIter_tuple (show s1.heap.IsTuple a its.toArray from p) ?_
    refine ⟨s1.heap.objs.size, [s1.heap.objs.size], _, _, H1, rfl, I1.kept (t' := s1.toks) fun b o e => Heap.get?_push_of_some _ e, turn_tuple a _, ⟨_, Heap.get?_push_size _ rfl, rfl, rfl⟩, fun b hb => ?_, q⟩
    have e : b = s1.heap.objs.size := by simpa using hb
    subst e
    exact I1.fpOk (Nat.le_refl _) (I1.hok.fresh (Nat.le_refl _))
  · obtain ⟨t, rfl⟩ := r1
    cases ha : z.cps.all (· < 128)
    · exact wpAny_pyIter_wide ha (pi_one (tk := s1.toks) I1 _ (turn_str _ z t "str_iterator" (.inr rfl)) ⟨_, Heap.get?_push_size _ rfl, rfl, rfl⟩ q)
    · exact wpAny_pyIter_ascii ha (pi_one (tk := s1.toks) I1 _ (turn_str _ z t "str_ascii_iterator" (.inl rfl)) ⟨_, Heap.get?_push_size _ rfl, rfl, rfl⟩ q)
end
end Lr

/-! Lr, part 6: what is walked, for, while. -/
namespace Lr
open PySem L2
section
variable {nm : Nm} {X : Cx} {W : XW} {a b c tg it : Expr} {sts : List Stmt} {pos p : Pos} {ma mb : M} {mt : MT} {mi : MI} {m : SM} {T : Tg}
theorem iv_val (ha : EV nm X W a ma) : IV nm X W tg a (iVal ma) := ⟨fun env μ σ H ρ G R0 R P => to_i pi_any (by
  refine ha.run env μ σ H ρ G _ R ((Po.bind P).imp (fun x hx v H1 ρ1 G1 e1 R1 r => ?_) fun _ _ _ h => h)
  obtain ⟨d, μ1⟩ := x
  cases d with
  | str s =>
    obtain ⟨rfl, o⟩ := r
    exact .inr (.inr ⟨_, rfl, hx _ H1 ρ1 G1 e1 R1 (src_str o)⟩)
  | tup ds =>
    have r0 := r
    obtain ⟨a, vs, rfl, q, rs⟩ := r0
    exact .inr (.inl ⟨a, rfl, ⟨vs, SqT.of (R1.sub _ _ q)⟩, hx _ H1 ρ1 G1 e1 R1 (src_tup (SqT.of q) rs)⟩)
  | lst ds =>
    have r0 := r
    obtain ⟨a, vs, rfl, q, rs⟩ := r0
    exact .inl ⟨a, rfl, ⟨vs, SqL.of (R1.sub _ _ q)⟩, hx _ H1 ρ1 G1 e1 R1 (src_fixL (SqL.of q) rs)⟩
  | scr ds =>
    have r0 := r
    obtain ⟨a, vs, rfl, q, rs⟩ := r0
    exact .inl ⟨a, rfl, ⟨vs, R1.sub.seq q⟩, hx _ H1 ρ1 G1 e1 R1 (src_fixL q rs)⟩
  | ref n =>
    dsimp only at hx
    cases hc : μ1[n]? with
    | none => rw [hc] at hx; exact hx.elim
    | some cc =>
      rw [hc] at hx
      cases cc with
      | lst ds =>
        obtain ⟨a, vs, e2, q, rs⟩ := lof_ok R1 r (show lof (.ref n) μ1 = some ds by simp only [lof, hc])
        refine .inl ⟨a, e2, ⟨vs, q⟩, hx _ H1 ρ1 G1 e1 R1 (src_list r e2 fun G2 ρ2 env2 μ2 σ2 H2 xs R2 r2 h2 => ?_)⟩
        obtain ⟨a', vs', e3, q', rs'⟩ := lof_ok R2 r2 h2
        rw [e2] at e3; cases e3
        exact ⟨vs', q', rs'⟩
      | _ => exact hx.elim
  | _ => exact hx.elim)⟩
theorem iv_range1 {ms : MA} (ha : AV nm X W [a] ms) (hg : Gl X "range" := by rfl) (hm : X.mg "range" = none := by assumption) (hs : starEach [a] X.env = [(false, eval a X.env)] := by rfl) : IV nm X W tg (.Call (.Name "range" p) [a] [] pos) (iRange1 ms) :=
  ⟨fun env μ σ H ρ G R0 R P => to_i (pi_range1 hg hm pa_wp hs) (by
  refine ha.run env μ σ H ρ G _ R ((Po.bind P).imp (fun x hx vs H1 ρ1 G1 e1 R1 r => ?_) fun _ _ _ h => h)
  obtain ⟨ds, μ1⟩ := x
  dsimp only at hx
  split at hx
  · split at hx
    · rename_i j hz
      obtain ⟨v, r0, rfl, rv, hr⟩ := r
      cases rv
      cases hr
      exact ⟨j, rfl, hz.1, hz.2, hx _ H1 ρ1 G1 e1 R1 src_range⟩
    · exact hx.elim
  · exact hx.elim)⟩
theorem iv_range2 {ms : MA} (ha : AV nm X W [a, b] ms) (hg : Gl X "range" := by rfl) (hm : X.mg "range" = none := by assumption) (hs : starEach [a, b] X.env = [(false, eval a X.env), (false, eval b X.env)] := by rfl) (hs2 : starEach [b] X.env = [(false, eval b X.env)] := by rfl) :
    IV nm X W tg (.Call (.Name "range" p) [a, b] [] pos) (iRange2 ms) :=
  ⟨fun env μ σ H ρ G R0 R P => to_i (pi_range2 hg hm pa_wp hs hs2) (by
  refine ha.run env μ σ H ρ G _ R ((Po.bind P).imp (fun x hx vs H1 ρ1 G1 e1 R1 r => ?_) fun _ _ _ h => h)
  obtain ⟨ds, μ1⟩ := x
  dsimp only at hx
  split at hx
  · split at hx
    · rename_i i j hz
      obtain ⟨v, r0, rfl, rv, w, r1, rfl, rw', hr⟩ := r
      cases rv
      cases rw'
      cases hr
      exact ⟨i, j, rfl, ⟨hz.1.1, hz.1.2, hz.2.1, hz.2.2⟩, hx _ H1 ρ1 G1 e1 R1 src_range⟩
    · exact hx.elim
  · exact hx.elim)⟩
theorem sv_for (hp : PassesOwn (model X.prog X.w) X.A X.env X.xe) (hc : X.calm = true) (hi : IV nm X W tg it mi) (hg : GV nm X tg T) (hb : BV nm X W sts m) (hs : ∀ x, foldedSetIterable it X.env x = pure x := by intro _; rfl) :
    SV nm X W (.For tg it sts [] pos) (sFor T mi m) := ⟨fun env μ σ H ρ G D R P => to_s (ps_for hp hc pi_wp pg_wp pss_wp hs) (by
  refine hi.run env μ σ H ρ G _ R ((eT R P).imp (fun x hx J H1 ρ1 G1 e1 R1 so => ?_) fun _ _ _ h => h)
  obtain ⟨s, μ1⟩ := x
  have hx : PoS (forGo T m s fuel 0 env μ1) (KS (ct nm X) W G1 ρ1 H1 D) := PoS.re e1 hx
  have R1 : Rel (ct nm X) G1 ρ1 env μ1 σ H1 := R1
  refine ⟨fun i f σ H => ∃ env μ ρ G, Ext G1 ρ1 H1 G ρ H ∧ Rel (ct nm X) G ρ env μ σ H ∧ PoS (forGo T m s f i env μ) (KS (ct nm X) W G1 ρ1 H1 D), ⟨fuel, env, μ1, ρ1, G1, .refl, R1, hx⟩, ?_⟩
  rintro i f σ2 H2 ⟨env2, μ2, ρ2, G2, e2, R2, P2⟩
  cases f with
  | zero => exact P2.elim
  | succ f =>
    unfold forGo at P2
    cases hq : items s μ2 with
    | none => rw [hq] at P2; exact P2.elim
    | some ds =>
      obtain ⟨so1, so2⟩ := so i G2 ρ2 env2 μ2 σ2 H2 ds e2 R2 hq
      rw [hq] at P2
      dsimp only at P2
      cases hd : ds[i]? with
      | none =>
        rw [hd] at P2
        exact .inl ⟨so2 hd, P2 σ2 H2 ρ2 G2 e2 R2⟩
      | some d =>
        rw [hd] at P2
        dsimp only at P2
        obtain ⟨go, yl⟩ := so1 d hd
        refine .inr ⟨go, fun σ' H' => ∃ env μ ρ G, Ext G1 ρ1 H1 G ρ H' ∧ Rel (ct nm X) G ρ env μ σ' H' ∧ PoS (forGo T m s f (i + 1) env μ) (KS (ct nm X) W G1 ρ1 H1 D), fun σ' H' h => ⟨f, Nat.lt_succ_self f, h⟩, fun x H3 y => ?_⟩
        obtain ⟨G3, e3, R3, r3⟩ := yl x H3 y
        cases ht : setT T d env2 with
        | none => rw [ht] at P2; exact P2.elim
        | some env3 =>
          rw [ht] at P2
          dsimp only at P2
          refine hg.run env2 μ2 σ2 H3 ρ2 G3 d x env3 _ R3 r3 ht fun σ3 R4 _ => ?_
          refine hb.run env3 μ2 σ3 H3 ρ2 G3 _ R4 ?_
          have e4 := e2.trans e3
          cases hm : m env3 μ2 with
          | none => rw [hm] at P2; exact P2
          | some o =>
            rw [hm] at P2
            cases o with
            | nx e' μ' => exact fun σ' H' ρ' G' ex R' => ⟨e', μ', ρ', G', e4.trans ex, R', P2⟩
            | ct e' μ' => exact fun σ' H' ρ' G' ex R' => ⟨e', μ', ρ', G', e4.trans ex, R', P2⟩
            | bk e' μ' => exact fun σ' H' ρ' G' ex R' => P2 σ' H' ρ' G' (e4.trans ex) R'
            | rt d' μ' => exact fun v H' ρ' G' ex R' r => P2 v H' ρ' G' (e4.trans ex) R' r
            | xc c ds' e' μ' => exact fun C dx σ' H' ρ' G' mm ex R' q => P2 C dx σ' H' ρ' G' mm (e4.trans ex) R' q)⟩
theorem sv_while (hp : PassesOwn (model X.prog X.w) X.A X.env X.xe) (hc : TV nm X W c mt) (hb : BV nm X W sts m) : SV nm X W (.While c sts [] pos) (sWhile mt m) := ⟨fun env μ σ H ρ G D R P => to_s (ps_while hp pt_wp pss_wp) (by
  refine ⟨fun f σ2 H2 => ∃ env μ ρ2 G2, Ext G ρ H G2 ρ2 H2 ∧ Rel (ct nm X) G2 ρ2 env μ σ2 H2 ∧ PoS (whGo mt m f env μ) (KS (ct nm X) W G ρ H D), ⟨fuel, env, μ, ρ, G, .refl, R, P⟩, ?_⟩
  rintro f σ2 H2 ⟨env2, μ2, ρ2, G2, e2, R2, P2⟩
  cases f with
  | zero => exact P2.elim
  | succ f =>
    unfold whGo at P2
    refine hc.run env2 μ2 σ2 H2 ρ2 G2 _ R2 ((eT2 e2 P2).imp (fun x hx H3 ρ3 G3 e3 R3 => ?_) fun _ _ _ h => h)
    obtain ⟨z, μ3⟩ := x
    have R3 : Rel (ct nm X) G3 ρ3 env2 μ3 σ2 H3 := R3
    cases z with
    | false => exact iteF (hx σ2 H3 ρ3 G3 (e2.trans e3) R3)
    | true =>
      refine iteT ⟨fun σ' H' => ∃ env μ ρ2 G2, Ext G ρ H G2 ρ2 H' ∧ Rel (ct nm X) G2 ρ2 env μ σ' H' ∧ PoS (whGo mt m f env μ) (KS (ct nm X) W G ρ H D), fun σ' H' h => ⟨f, Nat.lt_succ_self f, h⟩, ?_⟩
      refine hb.run env2 μ3 σ2 H3 ρ3 G3 _ R3 ?_
      have e4 := e2.trans e3
      simp only [if_true] at hx
      cases hm : m env2 μ3 with
      | none => rw [hm] at hx; exact hx
      | some o =>
        rw [hm] at hx
        cases o with
        | nx e' μ' => exact fun σ' H' ρ' G' ex R' => ⟨e', μ', ρ', G', e4.trans ex, R', hx⟩
        | ct e' μ' => exact fun σ' H' ρ' G' ex R' => ⟨e', μ', ρ', G', e4.trans ex, R', hx⟩
        | bk e' μ' => exact fun σ' H' ρ' G' ex R' => hx σ' H' ρ' G' (e4.trans ex) R'
        | rt d' μ' => exact fun v H' ρ' G' ex R' r => hx v H' ρ' G' (e4.trans ex) R' r
        | xc c ds' e' μ' => exact fun C dx σ' H' ρ' G' mm ex R' q => hx C dx σ' H' ρ' G' mm (e4.trans ex) R' q)⟩
end
end Lr

/-! Lr, part 7: views of values, what comes back from a call. -/
namespace Lr
open PySem L2

/-! no places of cells -/
mutual
def nr : D → Bool
  | .non => true | .bl _ => true | .int _ => true | .str _ => true
  | .tup ds => nrs ds | .lst ds => nrs ds | .scr ds => nrs ds | .dic kvs => nrk kvs | .dit kvs => nrk kvs | .obj _ ds => nrs ds
  | .ref _ => false
def nrs : List D → Bool
  | [] => true
  | d :: ds => nr d && nrs ds
def nrk : List (D × D) → Bool
  | [] => true
  | (_, d) :: ds => nr d && nrk ds
end
/-- the cells' contents put in; al: what was frozen before may be in it -/
def inl (al : Bool) (μ : Mu) : Nat → D → Option D
  | 0, _ => none
  | _ + 1, .non => some .non
  | _ + 1, .bl b => some (.bl b)
  | _ + 1, .int i => some (.int i)
  | _ + 1, .str x => some (.str x)
  | k + 1, .tup ds => (mapO (inl al μ k) ds).map .tup
  | k + 1, .ref n => match μ[n]? with
    | some (.lst ds) => (mapO (inl al μ k) ds).map .lst
    | some (.dic kvs) => (mapO (fun p => (inl al μ k p.2).map fun d => (p.1, d)) kvs).map .dic
    | some (.dit kvs) => (mapO (fun p => (inl al μ k p.2).map fun d => (p.1, d)) kvs).map .dit
    | some (.obj c ds) => (mapO (inl al μ k) ds).map (.obj c)
    | _ => none
  | k + 1, .lst ds => if al then (mapO (inl al μ k) ds).map .lst else none
  | k + 1, .scr ds => if al then (mapO (inl al μ k) ds).map .scr else none
  | k + 1, .dic kvs => if al then (mapO (fun p => (inl al μ k p.2).map fun d => (p.1, d)) kvs).map .dic else none
  | k + 1, .dit kvs => if al then (mapO (fun p => (inl al μ k p.2).map fun d => (p.1, d)) kvs).map .dit else none
  | k + 1, .obj c ds => if al then (mapO (inl al μ k) ds).map (.obj c) else none
/-- as a frozen value -/
def vw (μ : Mu) (d : D) : Option D := if nr d then some d else inl true μ 12 d
def vws (μ : Mu) : List D → Option (List D)
  | [] => some []
  | d :: ds => match vw μ d, vws μ ds with
    | some x, some xs => some (x :: xs)
    | _, _ => none
/-- as a frozen value, of own cells alone -/
def scal : D → Bool
  | .non => true | .bl _ => true | .int _ => true | .str _ => true
  | _ => false
def vf (μ : Mu) (d : D) : Option D := if scal d then some d else inl false μ 12 d

section
variable {t : Ct} {G H J : Hp} {ρ ρ2 : List Addr} {env : Ev} {μ : Mu} {σ : St}
mutual
theorem rep_nr (hs : Same G J) : ∀ (d : D) (v : V), nr d = true → rep t G ρ d v → rep t J ρ2 d v
  | .non, _, _, h => h
  | .bl _, _, _, h => h
  | .int _, _, _, h => h
  | .str _, _, _, h => h
  | .tup ds, _, f, ⟨a, vs, e, q, r⟩ => ⟨a, vs, e, hs _ _ q, reps_nr hs ds vs f r⟩
  | .lst ds, _, f, ⟨a, vs, e, q, r⟩ => ⟨a, vs, e, hs _ _ q, reps_nr hs ds vs f r⟩
  | .scr ds, _, f, ⟨a, vs, e, q, r⟩ => ⟨a, vs, e, Same.seq hs q, reps_nr hs ds vs f r⟩
  | .dic kvs, _, f, ⟨a, ks, e, q, r⟩ => ⟨a, ks, e, hs _ _ q, repk_nr hs kvs ks f r⟩
  | .dit kvs, _, f, ⟨a, ks, e, q, r⟩ => ⟨a, ks, e, hs _ _ q, repkT_nr hs kvs ks f r⟩
  | .obj c ds, _, f, ⟨a, C, dx, vs, e, m, q, l, r⟩ => ⟨a, C, dx, vs, e, m, hs _ _ q, l, reps_nr hs ds vs f r⟩
  | .ref _, _, f, _ => by cases f
theorem reps_nr (hs : Same G J) : ∀ (ds : List D) (vs : List V), nrs ds = true → reps t G ρ ds vs → reps t J ρ2 ds vs
  | [], _, _, h => h
  | d :: ds, _, f, ⟨v, r, e, h1, h2⟩ => by
    simp only [nrs, Bool.and_eq_true] at f
    exact ⟨v, r, e, rep_nr hs d v f.1 h1, reps_nr hs ds r f.2 h2⟩
theorem repk_nr (hs : Same G J) : ∀ (ds : List (D × D)) (vs : List (Key × V)), nrk ds = true → repk t G ρ ds vs → repk t J ρ2 ds vs
  | [], _, _, h => h
  | (k, d) :: ds, _, f, ⟨k', v, r, e, hk, h1, h2⟩ => by
    simp only [nrk, Bool.and_eq_true] at f
    exact ⟨k', v, r, e, hk, rep_nr hs d v f.1 h1, repk_nr hs ds r f.2 h2⟩
theorem repkT_nr (hs : Same G J) : ∀ (ds : List (D × D)) (vs : List (List Key × V)), nrk ds = true → repkT t G ρ ds vs → repkT t J ρ2 ds vs
  | [], _, _, h => h
  | (k, d) :: ds, _, f, ⟨k', v, r, e, hk, h1, h2⟩ => by
    simp only [nrk, Bool.and_eq_true] at f
    exact ⟨k', v, r, e, hk, rep_nr hs d v f.1 h1, repkT_nr hs ds r f.2 h2⟩
end
theorem inl_all {f : D → Option D} (ih : ∀ d d' v, rep t G ρ d v → f d = some d' → rep t J ρ2 d' v) : ∀ (ds ds' : List D) (vs : List V), reps t G ρ ds vs → mapO f ds = some ds' → reps t J ρ2 ds' vs
  | [], _, _, r, e => by cases e; exact r
  | d :: ds, ds', _, ⟨v, r, e1, h1, h2⟩, e => by
    unfold mapO at e
    split at e
    · rename_i x xs a b
      cases e
      exact ⟨v, r, e1, ih d x v h1 a, inl_all ih ds xs r h2 b⟩
    · cases e
theorem inl_allk {f : D → Option D} (ih : ∀ d d' v, rep t G ρ d v → f d = some d' → rep t J ρ2 d' v) : ∀ (ds ds' : List (D × D)) (vs : List (Key × V)), repk t G ρ ds vs → mapO (fun p => (f p.2).map fun d => (p.1, d)) ds = some ds' → repk t J ρ2 ds' vs
  | [], _, _, r, e => by cases e; exact r
  | (k, d) :: ds, ds', _, ⟨k', v, r, e1, hk, h1, h2⟩, e => by
    unfold mapO at e
    split at e
    · rename_i x xs a b
      cases e
      simp only [Option.map_eq_some_iff] at a
      obtain ⟨y, a, rfl⟩ := a
      exact ⟨k', v, r, e1, hk, ih d y v h1 a, inl_allk ih ds xs r h2 b⟩
    · cases e
theorem inl_allkT {f : D → Option D} (ih : ∀ d d' v, rep t G ρ d v → f d = some d' → rep t J ρ2 d' v) : ∀ (ds ds' : List (D × D)) (vs : List (List Key × V)), repkT t G ρ ds vs → mapO (fun p => (f p.2).map fun d => (p.1, d)) ds = some ds' → repkT t J ρ2 ds' vs
  | [], _, _, r, e => by cases e; exact r
  | (k, d) :: ds, ds', _, ⟨k', v, r, e1, hk, h1, h2⟩, e => by
    unfold mapO at e
    split at e
    · rename_i x xs a b
      cases e
      simp only [Option.map_eq_some_iff] at a
      obtain ⟨y, a, rfl⟩ := a
      exact ⟨k', v, r, e1, hk, ih d y v h1 a, inl_allkT ih ds xs r h2 b⟩
    · cases e
/-- a view stands in J, if the cells do -/
theorem inl_ok {al : Bool} (R : Rel t G ρ env μ σ H) (hT : ∀ a vs, G a = some (.tup vs) → J a = some (.tup vs)) (hA : al = true → Same G J) (hC : ∀ a ∈ ρ, ∀ o, H a = some o → J a = some o) :
    ∀ (k : Nat) (d d' : D) (v : V), rep t G ρ d v → inl al μ k d = some d' → rep t J ρ2 d' v := by
  intro k
  induction k with
  | zero => intro d d' v r e; cases e
  | succ k ih =>
    intro d d' v r e
    cases d with
    | non => cases e; exact r
    | bl _ => cases e; exact r
    | int _ => cases e; exact r
    | str _ => cases e; exact r
    | tup ds =>
      simp only [inl, Option.map_eq_some_iff] at e
      obtain ⟨xs, e, rfl⟩ := e
      obtain ⟨a, vs, e1, q, rs⟩ := r
      exact ⟨a, vs, e1, hT _ _ q, inl_all ih ds xs vs rs e⟩
    | lst ds =>
      unfold inl at e
      split at e
      · rename_i ha
        simp only [Option.map_eq_some_iff] at e
        obtain ⟨xs, e, rfl⟩ := e
        obtain ⟨a, vs, e1, q, rs⟩ := r
        exact ⟨a, vs, e1, hA ha _ _ q, inl_all ih ds xs vs rs e⟩
      · cases e
    | scr ds =>
      unfold inl at e
      split at e
      · rename_i ha
        simp only [Option.map_eq_some_iff] at e
        obtain ⟨xs, e, rfl⟩ := e
        obtain ⟨a, vs, e1, q, rs⟩ := r
        exact ⟨a, vs, e1, Same.seq (hA ha) q, inl_all ih ds xs vs rs e⟩
      · cases e
    | dic kvs =>
      unfold inl at e
      split at e
      · rename_i ha
        simp only [Option.map_eq_some_iff] at e
        obtain ⟨xs, e, rfl⟩ := e
        obtain ⟨a, ks, e1, q, rs⟩ := r
        exact ⟨a, ks, e1, hA ha _ _ q, inl_allk ih kvs xs ks rs (by simpa using e)⟩
      · cases e
    | dit kvs =>
      unfold inl at e
      split at e
      · rename_i ha
        simp only [Option.map_eq_some_iff] at e
        obtain ⟨xs, e, rfl⟩ := e
        obtain ⟨a, ks, e1, q, rs⟩ := r
        exact ⟨a, ks, e1, hA ha _ _ q, inl_allkT ih kvs xs ks rs (by simpa using e)⟩
      · cases e
    | obj c ds =>
      unfold inl at e
      split at e
      · rename_i ha
        simp only [Option.map_eq_some_iff] at e
        obtain ⟨xs, e, rfl⟩ := e
        obtain ⟨a, C, dx, vs, e1, m, q, l, rs⟩ := r
        exact ⟨a, C, dx, vs, e1, m, hA ha _ _ q, l, inl_all ih ds xs vs rs e⟩
      · cases e
    | ref n =>
      obtain ⟨a, e1, rfl⟩ := r
      have ha := List.mem_of_getElem? e1
      unfold inl at e
      split at e
      · rename_i ds q
        simp only [Option.map_eq_some_iff] at e
        obtain ⟨xs, e, rfl⟩ := e
        obtain ⟨vs, q, rs⟩ := R.cells n a _ e1 q
        exact ⟨a, vs, rfl, hC a ha _ q, inl_all ih ds xs vs rs e⟩
      · rename_i kvs q
        simp only [Option.map_eq_some_iff] at e
        obtain ⟨xs, e, rfl⟩ := e
        obtain ⟨ks, q, rs⟩ := R.cells n a _ e1 q
        exact ⟨a, ks, rfl, hC a ha _ q, inl_allk ih kvs xs ks rs (by simpa using e)⟩
      · rename_i kvs q
        simp only [Option.map_eq_some_iff] at e
        obtain ⟨xs, e, rfl⟩ := e
        obtain ⟨ks, q, rs⟩ := R.cells n a _ e1 q
        exact ⟨a, ks, rfl, hC a ha _ q, inl_allkT ih kvs xs ks rs (by simpa using e)⟩
      · rename_i c ds q
        simp only [Option.map_eq_some_iff] at e
        obtain ⟨xs, e, rfl⟩ := e
        obtain ⟨C, dx, vs, m, q, l, rs⟩ := R.cells n a _ e1 q
        exact ⟨a, C, dx, vs, rfl, m, hC a ha _ q, l, inl_all ih ds xs vs rs e⟩
      · cases e
theorem vw_ok (R : Rel t G ρ env μ σ H) (hA : Same G J) (hC : ∀ a ∈ ρ, ∀ o, H a = some o → J a = some o) {d d' : D} {v : V} (r : rep t G ρ d v) (e : vw μ d = some d') : rep t J ρ2 d' v := by
  unfold vw at e
  split at e
  · rename_i h
    cases e
    exact rep_nr hA d v h r
  · exact inl_ok R (fun _ _ q => hA _ _ q) (fun _ => hA) hC 12 d d' v r e
theorem vws_ok (R : Rel t G ρ env μ σ H) (hA : Same G J) (hC : ∀ a ∈ ρ, ∀ o, H a = some o → J a = some o) : ∀ {ds ds' : List D} {vs : List V}, reps t G ρ ds vs → vws μ ds = some ds' → reps t J ρ2 ds' vs
  | [], _, _, r, e => by cases e; exact r
  | d :: ds, ds', _, ⟨v, r, e1, h1, h2⟩, e => by
    unfold vws at e
    split at e
    · rename_i x xs a b
      cases e
      exact ⟨v, r, e1, vw_ok R hA hC h1 a, vws_ok R hA hC h2 b⟩
    · cases e
theorem vws_len {μ : Mu} : ∀ {ds ds' : List D}, vws μ ds = some ds' → ds'.length = ds.length := by
  intro ds
  induction ds with
  | nil => intro ds' e; cases e; rfl
  | cons d ds ih =>
    intro ds' e
    unfold vws at e
    split at e
    · rename_i x xs a b
      cases e
      rw [List.length_cons, List.length_cons, ih b]
    · cases e
theorem scal_rep {d : D} {v : V} (h : scal d = true) (r : rep t G ρ d v) : rep t J ρ2 d v := by
  cases d <;> first | exact r | cases h
theorem vf_ok (R : Rel t G ρ env μ σ H) (hT : ∀ a vs, G a = some (.tup vs) → J a = some (.tup vs)) (hC : ∀ a ∈ ρ, ∀ o, H a = some o → J a = some o) {d d' : D} {v : V} (r : rep t G ρ d v) (e : vf μ d = some d') : rep t J ρ2 d' v := by
  unfold vf at e
  split at e
  · rename_i h
    cases e
    exact scal_rep h r
  · exact inl_ok R hT (fun h => by cases h) hC 12 d d' v r e
end

/-! ### what a callee leaves, seen by the caller -/
section
variable {t : Ct} {G H H' Gc G' : Hp} {ρ ρ' : List Addr} {env env' : Ev} {μ μ' : Mu} {σ σ' : St}
open Classical in
/-- the caller's frozen heap behind a call -/
noncomputable def backG (ρ ρ' : List Addr) (H' G' : Hp) : Hp := fun b => if b ∈ ρ then none else if b ∈ ρ' then H' b else G' b
theorem back (R : Rel t G ρ env μ σ H) (h1 : Same G Gc) (h2 : ∀ a o, Gc a = some o → G a = some o ∨ a ∈ ρ) (e : Ext Gc [] H G' ρ' H') (R' : Rel t G' ρ' env' μ' σ' H') :
    Ext G ρ H (backG ρ ρ' H' G') ρ H' ∧ Rel t (backG ρ ρ' H' G') ρ env μ σ H' ∧ (∀ a vs, G' a = some (.tup vs) → a ∉ ρ → backG ρ ρ' H' G' a = some (.tup vs)) ∧ (∀ a ∈ ρ', ∀ o, H' a = some o → backG ρ ρ' H' G' a = some o) ∧
      (∀ a o, G' a = some o → a ∈ ρ → ∃ o', H a = some o' ∧ Gc a = some o) := by
  have dis : ∀ a ∈ ρ, a ∉ ρ' := fun a ha hb => by
    rcases e.fresh a hb with z | z
    · simp at z
    · exact R.ρH ha z
  have GG : Same G (backG ρ ρ' H' G') := fun a o q => by
    unfold backG
    have na : a ∉ ρ := fun z => by rw [R.gn a z] at q; cases q
    have nb : a ∉ ρ' := fun z => by
      have := e.sub a o (h1 a o q)
      rw [R'.gn a z] at this; cases this
    rw [if_neg na, if_neg nb]
    exact e.sub a o (h1 a o q)
  have SG : Same (backG ρ ρ' H' G') H' := fun a o q => by
    unfold backG at q
    split at q
    · cases q
    · split at q
      · exact q
      · exact R'.sub a o q
  have HH : ∀ a o, H a = some o → H' a = some o := fun a o q => e.frame a o q (by simp)
  refine ⟨⟨GG, .refl _, fun a o q _ => HH a o q, fun _ h => .inl h, e.there, fun a o q => ?_⟩, ⟨SG, R.nd, fun a ha => ?_, R.len, fun n a d e1 e2 => (R.cells n a d e1 e2).mono GG (.refl _) (HH a), R.slen, fun i d q => ?_⟩, fun a vs q na => ?_, fun a ha o q => ?_, fun a o q ha => ?_⟩
  · unfold backG at q
    split at q
    · cases q
    · rename_i na
      split at q
      · rename_i hb
        rcases e.fresh a hb with z | z
        · simp at z
        · exact .inr (.inl z)
      · rcases e.gf a o q with z | z | ⟨_, z⟩
        · rcases h2 a o z with y | y
          · exact .inl y
          · exact absurd y na
        · exact .inr (.inl z)
        · exact .inr (.inr ⟨na, z⟩)
  · unfold backG
    rw [if_pos ha]
  · obtain ⟨v, e1, r⟩ := R.slots i d q
    exact ⟨v, e1, rep.mono GG (.refl _) _ _ r⟩
  · unfold backG
    rw [if_neg na]
    have nb : a ∉ ρ' := fun z => by rw [R'.gn a z] at q; cases q
    rw [if_neg nb]; exact q
  · unfold backG
    rw [if_neg (fun z => dis a z ha), if_pos ha]; exact q
  · rcases e.gf a o q with z | z | ⟨_, z, _, rfl⟩
    · cases y : H a with
      | none => exact absurd y (R.ρH ha)
      | some o' => exact ⟨o', rfl, z⟩
    · exact absurd z (R.ρH ha)
    · exact absurd z (R.ρT ha)
/-- the caller's state behind a call that had all of its store -/
theorem Rel.onto (R : Rel t G ρ env μ σ H) (e : Ext G ρ H G' ρ' H') (R' : Rel t G' ρ' env' μ' σ' H') : Rel t G' ρ' env μ' σ H' :=
  R'.reslot R.slen fun i d q => by
    obtain ⟨v, e1, r⟩ := R.slots i d q
    exact ⟨v, e1, e.rep r⟩
end
end Lr

/-! Lr, part 8: defs, their calls; methods, instances and their fields. -/
namespace Lr
open PySem L2
open PyProof.Rows (envOfC)

/-- a def's meaning: from the arguments and the store -/
abbrev GF := List D → Mu → Res (D × Mu)
def bodyF (n : Nat) (m : SM) : GF := fun ds μ => match m (ds.map some ++ List.replicate (n - ds.length) none) μ with
  | some (.rt d μ') => .ok (d, μ')
  | some (.nx _ μ') => .ok (.non, μ')
  | some (.xc c fs _ μ') => .ex c fs μ'
  | _ => .no
section
variable (t : Ct) (G : Hp) (ρ : List Addr) (H : Hp)
def KR (Q : VK) (r : D × Mu) : Prop := ∀ v H' ρ' G', Ext G ρ H G' ρ' H' → Rel t G' ρ' [] r.2 [] H' → rep t G' ρ' r.1 v → Q v H'
def KRX (E : XK) (c : Nat) (fs : List D) (μ' : Mu) : Prop := ∀ C dx H' ρ' G', t.mg (t.nm.cn c) = some (.ref C) → Ext G ρ H G' ρ' H' → Rel t G' ρ' [] μ' [] H' → xfs t G' ρ' H' c fs dx → E (.ref C) dx H'
end
/-- what a def promises: its meaning -/
def spG (t : Ct) (n : Nat) (F : GF) : Sp := fun vs H Q E => ∃ G ρ μ ds, ds.length = n ∧ Rel t G ρ [] μ [] H ∧ reps t G ρ ds vs ∧ Po (F ds μ) (KR t G ρ H Q) (KRX t G ρ H E)
/-- .. of one that raises nothing -/
def spG0 (t : Ct) (n : Nat) (F : GF) : Sp := fun vs H Q _ => ∃ G ρ μ ds, ds.length = n ∧ Rel t G ρ [] μ [] H ∧ reps t G ρ ds vs ∧ Po (F ds μ) (KR t G ρ H Q) (fun _ _ _ => False)
section
variable {P : Program} {w : World} {K : PySem.W.Frag} {mg : Str → Option Value} {base : Heap} {nm : Nm}
theorem getD_some {α : Type} {ds : List α} {n i : Nat} {d : α} (h : (ds.map some ++ List.replicate n none)[i]? = some (some d)) : ds[i]? = some d := by
  by_cases hi : i < ds.length
  · rw [List.getElem?_append_left (by simpa using hi), List.getElem?_map] at h
    cases q : ds[i]? with
    | none => rw [q] at h; cases h
    | some x => rw [q] at h; cases h; rfl
  · rw [List.getElem?_append_right (by simpa using hi), List.getElem?_replicate] at h
    split at h <;> cases h
theorem rel_start {t : Ct} {G H : Hp} {ρ : List Addr} {μ : Mu} {ds : List D} {vs : List V} {N : List Str} (R : Rel t G ρ [] μ [] H) (r : reps t G ρ ds vs) (hl : ds.length ≤ N.length) : Rel t G ρ (ds.map some ++ List.replicate (N.length - ds.length) none) μ (L2.start N vs) H := by
  refine R.reslot ?_ fun i d e => ?_
  · unfold L2.start
    simp [r.length]
  · obtain ⟨v, h1, h2⟩ := r.get (getD_some e)
    refine ⟨v, ?_, h2⟩
    unfold L2.start
    rw [List.getElem?_append_left (by simpa using (List.getElem?_eq_some_iff.mp h1).1), List.getElem?_map, h1]
    rfl
theorem fn_gen0 {x qual : Str} {st : Stmt} {f : Addr} {fd : FuncData} {N ps : List Str} {k : Nat} {m : SM} (F : Fun K x qual st f fd) (S : FnScope N ps (defScope st)) (hl : ps.length ≤ N.length)
    (hb : ∀ (cdv : Value) (A : Around) (outer : List Env) (s : Shared) (H : Hp) (E : XK), Room k (A.deeper (envOfC qual (defScope st) s.heap.objs.size f cdv)) →
      BV nm (cxOf CX0 P w K mg base N qual (defScope st) f cdv A outer s H E).nox (fun _ _ _ _ => False) (defBody st) m) :
    FnOk P w K mg base CX0 (k + 1) f fd ps (spG0 ⟨K, mg, nm⟩ ps.length (bodyF N.length m)) := by
  refine F.ok S (fun vs H Q E h => ?_) (fun cdv A outer s H vs Q E hr h => ?_)
  · obtain ⟨G, ρ, μ, ds, hn, _, r, _⟩ := h
    rw [r.length, hn]
  · obtain ⟨G, ρ, μ, ds, hn, R, r, h⟩ := h
    refine ⟨_, pss_wp, (hb cdv A outer s H E hr).run _ μ _ H ρ G _ (rel_start (N := N) R r (by omega)) ?_⟩
    unfold bodyF at h
    cases q : m (ds.map some ++ List.replicate (N.length - ds.length) none) μ with
    | none => rw [q] at h; exact h
    | some o =>
      rw [q] at h
      cases o with
      | rt d μ' => exact fun v H' ρ' G' x R r => h v H' ρ' G' x R r
      | nx e μ' => exact fun σ' H' ρ' G' x R => h .non H' ρ' G' x R.bare rfl
      | bk e μ' => exact h.elim
      | ct e μ' => exact h.elim
      | xc c fs e μ' => exact h.elim
end

/-! ### how a def is called -/
def CallOk (nm : Nm) (X : Cx) (W : XW) (n : Nat) (F : GF) (f : FN) : Prop := ∀ env μ σ H ρ G Q E ds vs, Rel (ct nm X) G ρ env μ σ H → reps (ct nm X) G ρ ds vs → ds.length = n →
  Po (f ds μ) (KE (ct nm X) env σ G ρ H Q) (KX (ct nm X) W env σ G ρ H) → spG0 (ct nm X) n F vs H Q E
/-- what a pure call hands back -/
def retW (v : Mu → D → Option D) (μ : Mu) (r : Res (D × Mu)) : Res (D × Mu) := match r with
  | .ok r => match v r.2 r.1 with
    | some d => .ok (d, μ)
    | none => .no
  | _ => .no
/-- as a function of values -/
def pureC (F : GF) : FN := fun ds μ => if nrs ds then retW vw μ (F ds []) else match vws μ ds with
  | some ds' => retW vf μ (F ds' [])
  | none => .no
/-- as a function of values; the new list, dict or object that it hands back is the caller's to change -/
def retP (μ : Mu) (r : Res (D × Mu)) : Res (D × Mu) := match r with
  | .ok (.ref n, μ') => match μ'[n]? with
    | some (.lst cs) => if nrs cs then .ok (.ref μ.length, μ ++ [.lst cs]) else .no
    | some (.dic cs) => if nrk cs then .ok (.ref μ.length, μ ++ [.dic cs]) else .no
    | some (.dit cs) => if nrk cs then .ok (.ref μ.length, μ ++ [.dit cs]) else .no
    | _ => .no
  | _ => .no
def pureP (F : GF) : FN := fun ds μ => if nrs ds then retP μ (F ds []) else .no
/-- with all of the store -/
def liveC (F : GF) : FN := fun ds μ => match F ds μ with
  | .ok r => .ok r
  | _ => .no
section
variable {nm : Nm} {X : Cx} {W : XW} {n : Nat} {F : GF}
theorem Rel.empty {t : Ct} {G H : Hp} (h : Same G H) : Rel t G [] [] [] [] H := ⟨h, List.nodup_nil, fun _ h => by simp at h, rfl, fun n a d e => by simp at e, rfl, fun i d e => by simp at e⟩
open Classical in
theorem callOk_pure : CallOk nm X W n F (pureC F) := by
  intro env μ σ H ρ G Q E ds vs R r hn P
  unfold pureC at P
  split at P
  · rename_i hr
    refine ⟨G, [], [], ds, hn, Rel.empty R.sub, reps_nr (Same.refl _) ds vs hr r, ?_⟩
    unfold retW at P
    split at P
    · rename_i rr q
      rw [q]
      split at P
      · rename_i d hd
        intro v H' ρ' G' e R' rv
        obtain ⟨b1, b2, b3, b4, b5⟩ := back R (Same.refl _) (fun a o h => .inl h) e R'
        refine P v H' ρ _ b1 b2 ?_
        have nG : ∀ a o, G' a = some o → a ∉ ρ := fun a o h z => by
          obtain ⟨_, _, y⟩ := b5 a o h z
          rw [R.gn a z] at y; cases y
        refine vw_ok R' (fun a o h => ?_) b4 rv hd
        unfold backG
        rw [if_neg (nG a o h), if_neg (fun z => by rw [R'.gn a z] at h; cases h)]
        exact h
      · exact P.elim
    · exact P.elim
  · split at P
    · rename_i ds' e1
      have s1 : Same G (fun b => if b ∈ ρ then H b else G b) := fun a o h => by
        show (if a ∈ ρ then H a else G a) = _
        split
        · exact R.sub a o h
        · exact h
      have s2 : Same (fun b => if b ∈ ρ then H b else G b) H := fun a o h => by
        have h : (if a ∈ ρ then H a else G a) = some o := h
        split at h
        · exact h
        · exact R.sub a o h
      refine ⟨fun b => if b ∈ ρ then H b else G b, [], [], ds', by rw [vws_len e1, hn], Rel.empty s2, vws_ok R s1 (fun a ha o h => by show (if a ∈ ρ then H a else G a) = _; rw [if_pos ha]; exact h) r e1, ?_⟩
      unfold retW at P
      split at P
      · rename_i rr q
        rw [q]
        split at P
        · rename_i d hd
          intro v H' ρ' G' e R' rv
          obtain ⟨b1, b2, b3, b4, b5⟩ := back R s1 (fun a o h => by
            have h : (if a ∈ ρ then H a else G a) = some o := h
            split at h
            · rename_i ha; exact .inr ha
            · exact .inl h) e R'
          refine P v H' ρ _ b1 b2 ?_
          refine vf_ok R' (fun a vs h => b3 a vs h fun z => ?_) b4 rv hd
          obtain ⟨o', h1, h2⟩ := b5 a _ h z
          have h2 : (if a ∈ ρ then H a else G a) = some (.tup vs) := h2
          rw [if_pos z] at h2
          obtain ⟨m, hm, em⟩ := List.getElem_of_mem z
          obtain ⟨ob, k1, k2, _⟩ := (R.cells m a (μ[m]'(by rw [← R.len]; exact hm)) (by rw [List.getElem?_eq_getElem hm, em]) (by simp)).some
          rw [h2] at k1; cases k1
          exact k2 _ rfl
        · exact P.elim
      · exact P.elim
    · exact P.elim
theorem callOk_live : CallOk nm X W n F (liveC F) := by
  intro env μ σ H ρ G Q E ds vs R r hn P
  unfold liveC at P
  refine ⟨G, ρ, μ, ds, hn, R.bare, r, ?_⟩
  split at P
  · rename_i rr q
    rw [q]
    intro v H' ρ' G' e R' rv
    exact P v H' ρ' G' e (R.onto e R') rv
  · exact P.elim
open Classical in
theorem callOk_new : CallOk nm X W n F (pureP F) := by
  intro env μ σ H ρ G Q E ds vs R r hn P
  unfold pureP at P
  split at P
  · rename_i hr
    refine ⟨G, [], [], ds, hn, Rel.empty R.sub, reps_nr (Same.refl _) ds vs hr r, ?_⟩
    unfold retP at P
    split at P
    · rename_i m μ' q
      rw [q]
      intro v H' ρ' G' e R' rv
      obtain ⟨a, e1, rfl⟩ := rv
      -- the new cell a; all else of ρ' is forgotten
      have ha : a ∈ ρ' := List.mem_of_getElem? e1
      have hna : H a = none := by
        rcases e.fresh a ha with z | z
        · simp at z
        · exact z
      have hnρ : a ∉ ρ := fun z => R.ρH z hna
      have HH : ∀ b o, H b = some o → H' b = some o := fun b o q => e.frame b o q (by simp)
      have nG : ∀ b o, G' b = some o → b ∉ ρ := fun b o h z => by
        rcases e.gf b o h with y | y | ⟨_, y, _, rfl⟩
        · rw [R.gn b z] at y; cases y
        · exact R.ρH z y
        · exact R.ρT z y
      have fin : ∀ c : D, cell (ct nm X) G' (ρ ++ [a]) H' a c → KE (ct nm X) env σ G ρ H Q (.ref μ.length, μ ++ [c]) → Q (.ref a) H' := fun c hc P => by
        refine P (.ref a) H' (ρ ++ [a]) G' ⟨e.sub, ⟨[a], rfl⟩, fun b o q _ => HH b o q, fun b hb => ?_, e.there, fun b o h => by
          rcases e.gf b o h with y | y | ⟨_, y⟩
          · exact .inl y
          · exact .inr (.inl y)
          · exact .inr (.inr ⟨fun z => by obtain ⟨y, _, rfl⟩ := y; exact R.ρT z y, y⟩)⟩ ⟨R'.sub, ?_, fun b hb => ?_, by simp [R.len], fun i b c' h1 h2 => ?_, R.slen, fun i d q => ?_⟩ ⟨a, by rw [← R.len]; simp, rfl⟩
        · rcases List.mem_append.mp hb with z | z
          · exact .inl z
          · simp at z; subst z; exact .inr hna
        · rw [List.nodup_append]
          exact ⟨R.nd, by simp, fun x hx y hy z => by simp at hy; subst hy; subst z; exact hnρ hx⟩
        · rcases List.mem_append.mp hb with z | z
          · cases y : G' b with
            | none => rfl
            | some o => exact absurd z (nG b o y)
          · simp at z; subst z; exact R'.gn b ha
        · by_cases hi : i < μ.length
          · rw [List.getElem?_append_left (by rw [R.len]; exact hi)] at h1
            rw [List.getElem?_append_left hi] at h2
            exact (R.cells i b c' h1 h2).mono e.sub ⟨[a], rfl⟩ (HH b)
          · have : i = μ.length := by
              have := (List.getElem?_eq_some_iff.mp h2).1
              simp at this; omega
            subst this
            rw [← R.len] at h1
            simp at h1 h2
            subst h1 h2
            exact hc
        · obtain ⟨v, h1, h2⟩ := R.slots i d q
          exact ⟨v, h1, rep.mono e.sub ⟨[a], rfl⟩ _ _ h2⟩
      split at P
      · rename_i cs hq
        split at P
        · rename_i hz
          obtain ⟨vs, q1, q2⟩ := R'.cells m a _ e1 hq
          exact fin (.lst cs) ⟨vs, q1, reps_nr (Same.refl _) cs vs hz q2⟩ P
        · exact P.elim
      · rename_i cs hq
        split at P
        · rename_i hz
          obtain ⟨vs, q1, q2⟩ := R'.cells m a _ e1 hq
          exact fin (.dic cs) ⟨vs, q1, repk_nr (Same.refl _) cs vs hz q2⟩ P
        · exact P.elim
      · rename_i cs hq
        split at P
        · rename_i hz
          obtain ⟨vs, q1, q2⟩ := R'.cells m a _ e1 hq
          exact fin (.dit cs) ⟨vs, q1, repkT_nr (Same.refl _) cs vs hz q2⟩ P
        · exact P.elim
      · exact P.elim
    · exact P.elim
  · exact P.elim
end
section
variable {nm : Nm} {X : Cx} {W : XW} {e o : Expr} {es : List Expr} {pos p apos : Pos} {ms : MA} {ma : M} {k n : Nat} {f C : Addr} {fd : FuncData} {ps : List Str} {F : GF} {fn : FN} {x m : Str}
/-- f(e, ..) -/
theorem ev_call (Fk : FnOk X.prog X.w X.K X.mg X.base CX0 k f fd ps (spG0 (ct nm X) n F)) (hc : CallOk nm X W n F fn) (hr : Room k X.A) (hm : X.mg x = some (.ref f)) (hk : PySem.W.keepIn X.K (.ref f) = true) (hb : Binds X.K fd ps []) (ha : AV nm X W (e :: es) ms) (hn : es.length + 1 = n := by rfl)
    (hg : Gl X x := by rfl) (hdb : (x == ("__debug__" : Str)) = false := by decide) (he : starEach (e :: es) X.env = (false, eval e X.env) :: starEach es X.env := by rfl) (hpl : (backTo pos (starEach es X.env)).any (·.1) = false := by rfl) :
    EV nm X W (.Call (.Name x p) (e :: es) [] pos) (cF fn ms) :=
  ev_of (pe_call Fk hr hg hm hk hb .nil (pass0 (X := X)) pa_wp hdb he hpl) fun env μ σ H ρ G Q R P => by
  unfold cF at P
  cases h : ms env μ with
  | ok y =>
    have hl := ha.len env μ y h
    rw [h] at P
    refine ha.run env μ σ H ρ G _ R ?_
    rw [h]
    intro vs H1 ρ1 G1 e1 R1 r1
    rw [List.append_nil]
    exact hc env y.2 σ H1 ρ1 G1 Q _ y.1 vs R1 r1 (by rw [hl]; exact hn) (Po.reE e1 P)
  | ex c ds μ' =>
    rw [h] at P
    refine ha.run env μ σ H ρ G _ R ?_
    rw [h]
    exact P
  | no =>
    rw [h] at P
    exact P.elim
theorem ev_call0 (Fk : FnOk X.prog X.w X.K X.mg X.base CX0 k f fd ps (spG0 (ct nm X) 0 F)) (hc : CallOk nm X W 0 F fn) (hr : Room k X.A) (hm : X.mg x = some (.ref f)) (hk : PySem.W.keepIn X.K (.ref f) = true) (hb : Binds X.K fd ps [])
    (hg : Gl X x := by rfl) (hdb : (x == ("__debug__" : Str)) = false := by decide) : EV nm X W (.Call (.Name x p) [] [] pos) (cF fn cNil) :=
  ev_of (pe_call0 Fk hr hg hm hk hb .nil (pass0 (X := X)) hdb) fun env μ σ H ρ G Q R P => by
  show spG0 (ct nm X) 0 F ([] ++ []) H Q E0
  exact hc env μ σ H ρ G Q _ [] [] R rfl rfl P

/-! ### instances -/
/-- an instance: its class, its fields -/
def oof (d : D) (μ : Mu) : Option (Nat × List D) := match d with
  | .obj c ds => some (c, ds)
  | .ref n => match μ[n]? with
    | some (.obj c ds) => some (c, ds)
    | _ => none
  | _ => none
theorem oof_ok {env μ σ H ρ G} (R : Rel (ct nm X) G ρ env μ σ H) {d : D} {v : V} {c : Nat} {ds : List D} (r : rep (ct nm X) G ρ d v) (e : oof d μ = some (c, ds)) :
    ∃ a C dx vs, v = .ref a ∧ X.mg (nm.cn c) = some (.ref C) ∧ H a = some (.ins C dx ((nm.cf c).zip vs)) ∧ vs.length ≤ (nm.cf c).length ∧ reps (ct nm X) G ρ ds vs := by
  unfold oof at e
  split at e
  · cases e
    obtain ⟨a, C, dx, vs, e1, m, q, l, r⟩ := r
    exact ⟨a, C, dx, vs, e1, m, R.sub _ _ q, l, r⟩
  · split at e
    · rename_i n _ _ _ q
      cases e
      obtain ⟨a, e1, rfl⟩ := r
      obtain ⟨C, dx, vs, m, q, l, r⟩ := R.cells n a _ e1 q
      exact ⟨a, C, dx, vs, rfl, m, q, l, r⟩
    · cases e
  · cases e
theorem zip_lookup {N : List Str} (nd : N.Nodup) {x : Str} : ∀ {i : Nat} {vs : List V} {v : V}, N[i]? = some x → vs[i]? = some v → (N.zip vs).lookup x = some v := by
  induction N with
  | nil => intro i vs v h; simp at h
  | cons y N ih =>
    intro i vs v h1 h2
    cases vs with
    | nil => simp at h2
    | cons u vs =>
      cases i with
      | zero => simp at h1 h2; subst h1 h2; simp [List.zip_cons_cons, List.lookup]
      | succ i =>
        simp at h1 h2
        have hne : (x == y) = false := by
          rw [beq_eq_false_iff_ne]
          rintro rfl
          exact (List.nodup_cons.mp nd).1 (List.mem_of_getElem? h1)
        rw [List.zip_cons_cons, List.lookup_cons, hne]
        exact ih (List.nodup_cons.mp nd).2 h1 h2
theorem zip_lookup_none {N : List Str} {x : Str} (h : x ∉ N) : ∀ {vs : List V}, (N.zip vs).lookup x = none := by
  induction N with
  | nil => intro vs; rfl
  | cons y N ih =>
    intro vs
    cases vs with
    | nil => rfl
    | cons u vs =>
      have hne : (x == y) = false := by
        rw [beq_eq_false_iff_ne]
        rintro rfl
        exact h List.mem_cons_self
      rw [List.zip_cons_cons, List.lookup_cons, hne]
      exact ih fun z => h (List.mem_cons_of_mem _ z)
theorem zip_put {N : List Str} (nd : N.Nodup) {x : Str} {v : V} : ∀ {i : Nat} {vs : List V}, N[i]? = some x → i ≤ vs.length → putF x v (N.zip vs) = N.zip (if i < vs.length then vs.set i v else vs ++ [v]) := by
  induction N with
  | nil => intro i vs h; simp at h
  | cons y N ih =>
    intro i vs h1 h2
    cases vs with
    | nil =>
      simp at h2; subst h2
      simp at h1; subst h1
      simp [putF]
    | cons u vs =>
      cases i with
      | zero => simp at h1; subst h1; simp [putF]
      | succ i =>
        simp at h1 h2
        have hne : ¬ y = x := by
          rintro rfl
          exact (List.nodup_cons.mp nd).1 (List.mem_of_getElem? h1)
        rw [List.zip_cons_cons]
        show (if y = x then (y, v) :: N.zip vs else (y, u) :: putF x v (N.zip vs)) = _
        rw [if_neg hne, ih (List.nodup_cons.mp nd).2 h1 h2]
        by_cases c : i < vs.length
        · rw [if_pos c, if_pos (by simpa using c)]; rfl
        · rw [if_neg c, if_neg (by simpa using c)]; rfl
/-- facts of an own class -/
structure ClsT (nm : Nm) (K : PySem.W.Frag) (mg : Str → Option Value) (c : Nat) (C : Addr) : Prop where
  at_ : mg (nm.cn c) = some (.ref C)
  cl : Cls K C
  nf : ∀ x ∈ nm.cf c, NoAttr K C x
  nd : (nm.cf c).Nodup
  few : (nm.cf c).length < 900
/-- e.f, f the class c's field i -/
def dFld (c i : Nat) : F1 := fun d μ => match oof d μ with
  | some (c', ds) => if c' = c then match ds[i]? with
    | some x => .ok (x, μ)
    | none => .no
    else .no
  | none => .no
theorem ev_fld {c i : Nat} (T : ClsT nm X.K X.mg c C) (ha : EV nm X W e ma) (hi : (nm.cf c)[i]? = some x := by rfl) (hb : attributeBase e x X.env (eval e X.env) = eval e X.env := by rfl) : EV nm X W (.Attribute e x pos) (cU (dFld c i) ma) :=
  ev_of (pe_fld pe_wp hb) fun env μ σ H ρ G Q R P => by
  refine ha.run env μ σ H ρ G _ R ((Po.bind P).imp (fun y hy v H1 ρ1 G1 e1 R1 r1 => ?_) fun _ _ _ h => h)
  obtain ⟨d, μ1⟩ := y
  dsimp only at hy R1 r1
  unfold dFld at hy
  split at hy
  · rename_i c' ds q
    split at hy
    · rename_i hc
      subst hc
      obtain ⟨a, C', dx, vs, rfl, m, h, l, r⟩ := oof_ok R1 r1 q
      rw [T.at_] at m; cases m
      split at hy
      · rename_i z hz
        obtain ⟨u, hu, ru⟩ := r.get hz
        exact ⟨a, C, dx, _, u, rfl, h, T.cl, T.nf _ (List.mem_of_getElem? hi), zip_lookup T.nd hi hu, hy u H1 ρ1 G1 e1 R1 ru⟩
      · exact hy.elim
    · exact hy.elim
  · exact hy.elim
/-- o.m(e, ..) -/
def cMt (c : Nat) (f : FN) (a : M) (ms : MA) : M := fun env μ => (a env μ).bind fun x => match oof x.1 x.2 with
  | some (c', _) => if c' = c then (ms env x.2).bind fun y => f (x.1 :: y.1) y.2 else .no
  | none => .no
theorem ev_meth {c : Nat} {pl : Sem Bool} (T : ClsT nm X.K X.mg c C) (hm : Meth X.K C m f) (Fk : FnOk X.prog X.w X.K X.mg X.base CX0 k f fd ps (spG0 (ct nm X) n F)) (hc : CallOk nm X W n F fn) (hr : Room k X.A) (hb : Binds X.K fd ps [])
    (ho : EV nm X W o ma) (ha : AV nm X W (e :: es) ms) (hmm : m ∉ nm.cf c := by decide) (hn : es.length + 2 = n := by rfl) (hst : starEach (e :: es) X.env = (false, eval e X.env) :: starEach es X.env := by rfl) (hpl : (backTo pos (starEach es X.env)).any (·.1) = false := by rfl)
    (ht : eval (.Call (.Attribute o m apos) (e :: es) [] pos) X.env = (do
      let ov ← eval o X.env
      standAt apos.atName
      let (f, first) ← holding [ov] (getMethod ov m pl)
      callWith pos f first (backTo pos (starEach (e :: es) X.env)) (backToKw pos (keywordEach [] X.env))) := by rfl) :
    EV nm X W (.Call (.Attribute o m apos) (e :: es) [] pos) (cMt c fn ma ms) :=
  ev_of (pe_meth pe_wp T.cl hm Fk hr hb .nil (pass0 (X := X)) pa_wp hst hpl ht) fun env μ σ H ρ G Q R P => by
  refine ho.run env μ σ H ρ G _ R ((Po.bind P).imp (fun y hy v H1 ρ1 G1 e1 R1 r1 => ?_) fun _ _ _ h => h)
  obtain ⟨d, μ1⟩ := y
  dsimp only at hy R1 r1
  split at hy
  · rename_i c' ds q
    split at hy
    · rename_i hcc
      subst hcc
      obtain ⟨a, C', dx, vs, rfl, mm, h, l, r⟩ := oof_ok R1 r1 q
      rw [T.at_] at mm; cases mm
      refine ⟨a, dx, _, rfl, h, zip_lookup_none hmm, ?_⟩
      cases hms : ms env μ1 with
      | ok y =>
        have hl := ha.len env μ1 y hms
        rw [hms] at hy
        refine ha.run env μ1 σ H1 ρ1 G1 _ R1 ?_
        rw [hms]
        intro vs H2 ρ2 G2 e2 R2 r2
        rw [List.append_nil]
        exact hc env y.2 σ H2 ρ2 G2 Q _ (d :: y.1) (.ref a :: vs) R2 ⟨_, _, rfl, e2.rep r1, r2⟩ (by rw [List.length_cons, hl]; exact hn) (Po.reE (e1.trans e2) hy)
      | ex c ds μ' =>
        rw [hms] at hy
        refine ha.run env μ1 σ H1 ρ1 G1 _ R1 ?_
        rw [hms]
        exact KX.re e1 hy
      | no => rw [hms] at hy; exact hy.elim
    · exact hy.elim
  · exact hy.elim
theorem ev_meth0 {c : Nat} {pl : Sem Bool} (T : ClsT nm X.K X.mg c C) (hm : Meth X.K C m f) (Fk : FnOk X.prog X.w X.K X.mg X.base CX0 k f fd ps (spG0 (ct nm X) 1 F)) (hc : CallOk nm X W 1 F fn) (hr : Room k X.A) (hb : Binds X.K fd ps [])
    (ho : EV nm X W o ma) (hmm : m ∉ nm.cf c := by decide)
    (ht : eval (.Call (.Attribute o m apos) [] [] pos) X.env = (do
      let ov ← eval o X.env
      standAt apos.atName
      let (f, first) ← holding [ov] (getMethod ov m pl)
      callWith pos f first (backTo pos (starEach [] X.env)) (backToKw pos (keywordEach [] X.env))) := by rfl) :
    EV nm X W (.Call (.Attribute o m apos) [] [] pos) (cMt c fn ma cNil) :=
  ev_of (pe_meth0 pe_wp T.cl hm Fk hr hb .nil (pass0 (X := X)) ht) fun env μ σ H ρ G Q R P => by
  refine ho.run env μ σ H ρ G _ R ((Po.bind P).imp (fun y hy v H1 ρ1 G1 e1 R1 r1 => ?_) fun _ _ _ h => h)
  obtain ⟨d, μ1⟩ := y
  dsimp only at hy R1 r1
  split at hy
  · rename_i c' ds q
    split at hy
    · rename_i hcc
      subst hcc
      obtain ⟨a, C', dx, vs, rfl, mm, h, l, r⟩ := oof_ok R1 r1 q
      rw [T.at_] at mm; cases mm
      refine ⟨a, dx, _, rfl, h, zip_lookup_none hmm, ?_⟩
      show spG0 (ct nm X) 1 F (.ref a :: ([] ++ [])) H1 Q E0
      exact hc env μ1 σ H1 ρ1 G1 Q _ [d] [.ref a] R1 ⟨_, _, rfl, r1, rfl⟩ rfl (Po.reE e1 hy)
    · exact hy.elim
  · exact hy.elim
/-! C(e, ..) -/
/-- a new instance, frozen -/
def makeF (c : Nat) (F : GF) : FN := fun ds μ => if nrs ds then (match F (.ref 0 :: ds) [.obj c []] with
    | .ok (.non, μ') => match inl true μ' 12 (.ref 0) with
      | some d => .ok (d, μ)
      | none => .no
    | _ => .no) else match vws μ ds with
  | some ds' => (match F (.ref 0 :: ds') [.obj c []] with
    | .ok (.non, μ') => match inl false μ' 12 (.ref 0) with
      | some d => .ok (d, μ)
      | none => .no
    | _ => .no)
  | none => .no
/-- a new instance, the caller's to change -/
def makeL (c : Nat) (F : GF) : FN := fun ds μ => match F (.ref μ.length :: ds) (μ ++ [.obj c []]) with
  | .ok (.non, μ') => .ok (.ref μ.length, μ')
  | _ => .no
def MakeOk (nm : Nm) (X : Cx) (W : XW) (n : Nat) (C : Addr) (F : GF) (f : FN) : Prop := ∀ env μ σ H ρ G Q E ds vs, Rel (ct nm X) G ρ env μ σ H → reps (ct nm X) G ρ ds vs → ds.length = n →
  Po (f ds μ) (KE (ct nm X) env σ G ρ H Q) (KX (ct nm X) W env σ G ρ H) → ∀ x dx, H x = none → H dx = none → dx ≠ x → spG0 (ct nm X) (n + 1) F (.ref x :: vs) (upd (upd H dx (.own x)) x (.ins C dx [])) (fun v H2 => v = .non ∧ Q (.ref x) H2) E
end
end Lr

/-! Lr, part 9: instances made; stores to fields, places, keys; x += e. -/
namespace Lr
open PySem L2
section
variable {nm : Nm} {X : Cx} {W : XW} {n c : Nat} {C : Addr} {F : GF}
theorem ins_start {G H : Hp} {ρ : List Addr} {μ : Mu} {env : Ev} {σ : St} (T : ClsT nm X.K X.mg c C) (R : Rel (ct nm X) G ρ env μ σ H) {x dx : Addr} (hx : H x = none) (hdx : H dx = none) (hne : dx ≠ x) :
    ∃ G1, Rel (ct nm X) G1 (ρ ++ [x]) env (μ ++ [.obj c []]) σ (upd (upd H dx (.own x)) x (.ins C dx [])) ∧ Ext G ρ H G1 (ρ ++ [x]) (upd (upd H dx (.own x)) x (.ins C dx [])) ∧ (ρ ++ [x])[μ.length]? = some x := by
  obtain ⟨R1, e1⟩ := R.laidG (.own x) hdx
  have hx1 : upd H dx (.own x) x = none := by rw [upd_ne (Ne.symm hne)]; exact hx
  obtain ⟨R2, e2, g⟩ := R1.newCell (o := .ins C dx []) (d := .obj c []) hx1 ⟨C, dx, [], T.at_, by rw [upd_same]; simp, Nat.zero_le _, rfl⟩
  exact ⟨_, R2, e1.trans e2, g⟩
open Classical in
theorem makeOk_F (T : ClsT nm X.K X.mg c C) : MakeOk nm X W n C F (makeF c F) := by
  intro env μ σ H ρ G Q E ds vs R r hn P x dx hx hdx hne
  unfold makeF at P
  split at P
  · rename_i hr
    obtain ⟨G1, R1, e1, g1⟩ := ins_start T (Rel.empty (t := ct nm X) R.sub) hx hdx hne
    refine ⟨G1, [x], [.obj c []], .ref 0 :: ds, by rw [List.length_cons, hn], R1.bare, ⟨.ref x, vs, rfl, ⟨x, g1, rfl⟩, reps_nr e1.sub ds vs hr r⟩, ?_⟩
    split at P
    · rename_i μ' q
      rw [q]
      split at P
      · rename_i d hd
        intro v H' ρ' G' e R' rv
        have rv : v = .non := rv
        obtain ⟨b1, b2, b3, b4, b5⟩ := back R (Same.refl _) (fun a o h => .inl h) (e1.trans e) R'
        refine ⟨rv, P (.ref x) H' ρ _ b1 b2 ?_⟩
        have nG : ∀ a o, G' a = some o → a ∉ ρ := fun a o h z => by
          obtain ⟨_, _, y⟩ := b5 a o h z
          rw [R.gn a z] at y; cases y
        refine inl_ok R' (fun a vs h => b3 a vs h (nG a _ h)) (fun _ a o h => ?_) b4 12 (.ref 0) d (.ref x) ⟨x, e.pre.get g1, rfl⟩ hd
        unfold backG
        rw [if_neg (nG a o h), if_neg (fun z => by rw [R'.gn a z] at h; cases h)]
        exact h
      · exact P.elim
    · exact P.elim
  · split at P
    · rename_i ds' ev
      have s1 : Same G (fun b => if b ∈ ρ then H b else G b) := fun a o h => by
        show (if a ∈ ρ then H a else G a) = _
        split
        · exact R.sub a o h
        · exact h
      have s2 : Same (fun b => if b ∈ ρ then H b else G b) H := fun a o h => by
        have h : (if a ∈ ρ then H a else G a) = some o := h
        split at h
        · exact h
        · exact R.sub a o h
      obtain ⟨G1, R1, e1, g1⟩ := ins_start T (Rel.empty (t := ct nm X) s2) hx hdx hne
      have rv0 : reps (ct nm X) (fun b => if b ∈ ρ then H b else G b) [] ds' vs := vws_ok R s1 (fun a ha o h => by show (if a ∈ ρ then H a else G a) = _; rw [if_pos ha]; exact h) r ev
      refine ⟨G1, [x], [.obj c []], .ref 0 :: ds', by rw [List.length_cons, vws_len ev, hn], R1.bare, ⟨.ref x, vs, rfl, ⟨x, g1, rfl⟩, reps.mono e1.sub ⟨[x], rfl⟩ _ _ rv0⟩, ?_⟩
      split at P
      · rename_i μ' q
        rw [q]
        split at P
        · rename_i d hd
          intro v H' ρ' G' e R' rv
          have rv : v = .non := rv
          obtain ⟨b1, b2, b3, b4, b5⟩ := back R s1 (fun a o h => by
            have h : (if a ∈ ρ then H a else G a) = some o := h
            split at h
            · rename_i ha; exact .inr ha
            · exact .inl h) (e1.trans e) R'
          refine ⟨rv, P (.ref x) H' ρ _ b1 b2 ?_⟩
          refine inl_ok R' (fun a vs h => b3 a vs h fun z => ?_) (fun h => by cases h) b4 12 (.ref 0) d (.ref x) ⟨x, e.pre.get g1, rfl⟩ hd
          obtain ⟨o', h1, h2⟩ := b5 a _ h z
          have h2 : (if a ∈ ρ then H a else G a) = some (.tup vs) := h2
          rw [if_pos z] at h2
          obtain ⟨m, hm, em⟩ := List.getElem_of_mem z
          obtain ⟨ob, k1, k2, _⟩ := (R.cells m a (μ[m]'(by rw [← R.len]; exact hm)) (by rw [List.getElem?_eq_getElem hm, em]) (by simp)).some
          rw [h2] at k1; cases k1
          exact k2 _ rfl
        · exact P.elim
      · exact P.elim
    · exact P.elim
theorem makeOk_L (T : ClsT nm X.K X.mg c C) : MakeOk nm X W n C F (makeL c F) := by
  intro env μ σ H ρ G Q E ds vs R r hn P x dx hx hdx hne
  unfold makeL at P
  obtain ⟨G1, R1, e1, g1⟩ := ins_start T R hx hdx hne
  refine ⟨G1, ρ ++ [x], μ ++ [.obj c []], .ref μ.length :: ds, by rw [List.length_cons, hn], R1.bare, ⟨.ref x, vs, rfl, ⟨x, g1, rfl⟩, e1.reps r⟩, ?_⟩
  split at P
  · rename_i μ' q
    rw [q]
    intro v H' ρ' G' e R' rv
    exact ⟨rv, P (.ref x) H' ρ' G' (e1.trans e) (R.onto (e1.trans e) R') ⟨x, e.pre.get g1, rfl⟩⟩
  · exact P.elim
end
section
variable {nm : Nm} {X : Cx} {W : XW} {e o i : Expr} {es : List Expr} {pos p apos pos' : Pos} {ms : MA} {ma mo mi : M} {k n c : Nat} {f C : Addr} {fd : FuncData} {ps : List Str} {F : GF} {fn : FN} {x m : Str}
/-- C(e, ..) -/
theorem ev_make (M : Mk X.K C f) (Fk : FnOk X.prog X.w X.K X.mg X.base CX0 k f fd ps (spG0 (ct nm X) (n + 1) F)) (hc : MakeOk nm X W n C F fn) (hr : Room (k + 1) X.A) (hm : X.mg x = some (.ref C)) (hb : Binds X.K fd ps []) (ha : AV nm X W (e :: es) ms) (hn : es.length + 1 = n := by rfl)
    (hg : Gl X x := by rfl) (hdb : (x == ("__debug__" : Str)) = false := by decide) (he : starEach (e :: es) X.env = (false, eval e X.env) :: starEach es X.env := by rfl) (hpl : (backTo pos (starEach es X.env)).any (·.1) = false := by rfl) :
    EV nm X W (.Call (.Name x p) (e :: es) [] pos) (cF fn ms) :=
  ev_of (pe_make M Fk hr hg hm hb .nil (pass0 (X := X)) pa_wp hdb he hpl) fun env μ σ H ρ G Q R P => by
  unfold cF at P
  cases h : ms env μ with
  | ok y =>
    have hl := ha.len env μ y h
    rw [h] at P
    refine ha.run env μ σ H ρ G _ R ?_
    rw [h]
    intro vs H1 ρ1 G1 e1 R1 r1
    rw [List.append_nil]
    exact hc env y.2 σ H1 ρ1 G1 Q E0 y.1 vs R1 r1 (by rw [hl]; exact hn) (Po.reE e1 P)
  | ex c ds μ' =>
    rw [h] at P
    refine ha.run env μ σ H ρ G _ R ?_
    rw [h]
    exact P
  | no =>
    rw [h] at P
    exact P.elim

/-! o.f = e -/
def setF (i : Nat) (d : D) (ds : List D) : Option (List D) := if i < ds.length then some (ds.set i d) else if i = ds.length then some (ds ++ [d]) else none
def sFl (c i : Nat) (mo ma : M) : SM := fun env μ => eThen ((ma env μ).bind fun x => (mo env x.2).bind fun y => .ok (x.1, y)) env fun r => match r.2.1 with
  | .ref n => match r.2.2[n]? with
    | some (.obj c' ds) => if c' = c then (setF i r.1 ds).map fun ds' => .nx env (r.2.2.set n (.obj c ds')) else none
    | _ => none
  | _ => none
theorem sv_fld {i : Nat} (T : ClsT nm X.K X.mg c C) (ho : EV nm X W o mo) (ha : EV nm X W e ma) (hi : (nm.cf c)[i]? = some x := by rfl) (hs : swapsWith e (some (.Attribute o x pos')) pos.line X.env = pure false := by rfl) :
    SV nm X W (.Assign [.Attribute o x pos'] e pos) (sFl c i mo ma) := ⟨fun env μ σ H ρ G D R P => to_s (ps_fld pe_wp pe_wp hs) (by
  unfold sFl at P
  refine ha.run env μ σ H ρ G _ R ((Po.bind (eT R P)).imp (fun y hy v H1 ρ1 G1 e1 R1 r1 => ?_) fun _ _ _ h => h)
  have R1 : Rel (ct nm X) G1 ρ1 env y.2 σ H1 := R1
  refine ho.run env y.2 σ H1 ρ1 G1 _ R1 ((Po.bind hy).imp (fun z hz w H2 ρ2 G2 e2 R2 r2 => ?_) fun c ds μ h => KX.re e1 h)
  obtain ⟨d, μ2⟩ := z
  have R2 : Rel (ct nm X) G2 ρ2 env μ2 σ H2 := R2
  replace hz : PoS (match d with
    | .ref n => match μ2[n]? with
      | some (.obj c' ds) => if c' = c then (setF i y.1 ds).map fun ds' => .nx env (μ2.set n (.obj c ds')) else none
      | _ => none
    | _ => none) (KS (ct nm X) W G ρ H D) := hz
  split at hz
  · rename_i n
    split at hz
    · rename_i c' ds q
      split at hz
      · rename_i hc
        subst hc
        obtain ⟨a, ea, rfl⟩ := r2
        obtain ⟨C', dx, vs, m, h, l, rs⟩ := R2.cells n a _ ea q
        have m : X.mg (nm.cn c') = some (.ref C') := m
        rw [T.at_] at m; cases m
        have hil : i < (nm.cf c').length := (List.getElem?_eq_some_iff.mp hi).1
        refine ⟨a, C, dx, _, rfl, h, T.cl, T.nf _ (List.mem_of_getElem? hi), ?_, ?_⟩
        · have h1 : (nm.cf c').length < 900 := T.few
          rw [List.length_zip]
          exact Nat.lt_of_le_of_lt (Nat.min_le_left _ _) (Nat.lt_of_lt_of_le h1 (by decide))
        · unfold setF at hz
          have hle : ds.length = vs.length := rs.length.symm
          split at hz
          · rename_i hlt
            have hlt' : i < vs.length := by omega
            rw [zip_put T.nd hi (by omega), if_pos hlt']
            obtain ⟨R3, e3⟩ := R2.setCell (o := .ins C dx ((nm.cf c').zip (vs.set i v))) (d := .obj c' (ds.set i y.1)) ea ⟨C, dx, vs.set i v, T.at_, by rw [upd_same], by rw [List.length_set]; exact l, reps.set (e2.rep r1) i rs⟩
            exact hz σ _ ρ2 G2 ((e1.trans e2).trans e3) R3
          · rename_i hlt
            have hlt' : ¬ i < vs.length := by omega
            split at hz
            · rename_i he
              rw [zip_put T.nd hi (by omega), if_neg hlt']
              obtain ⟨R3, e3⟩ := R2.setCell (o := .ins C dx ((nm.cf c').zip (vs ++ [v]))) (d := .obj c' (ds ++ [y.1])) ea ⟨C, dx, vs ++ [v], T.at_, by rw [upd_same], (by
                rw [List.length_append, List.length_singleton]
                show vs.length + 1 ≤ (nm.cf c').length
                omega), reps.app rs (reps.one (e2.rep r1))⟩
              exact hz σ _ ρ2 G2 ((e1.trans e2).trans e3) R3
            · exact hz.elim
      · exact hz.elim
    · exact hz.elim
  · exact hz.elim)⟩
end
end Lr

/-! Lr, part 10: list comprehensions; stores by place and key; x op= e. -/
namespace Lr
open PySem L2

/-! ### list comprehensions -/
def wp0 (own : List Nat) (env : Ev) : Ev := env.mapIdx fun i o => if own.contains i then none else o
def lcGo (T : Tg) (tst : MT) (elt : M) (s : Src) (env : Ev) : Nat → Nat → List D → Mu → Res (List D × Mu)
  | 0, _, _, _ => .no
  | f + 1, i, acc, μ => match items s μ with
    | none => .no
    | some ds => match ds[i]? with
      | none => .ok (acc, μ)
      | some d => match setT T d env with
        | none => .no
        | some e1 => match tst e1 μ with
          | .ok (true, μ2) => match elt e1 μ2 with
            | .ok (y, μ3) => if acc.length < lineN then lcGo T tst elt s env f (i + 1) (acc ++ [y]) μ3 else .no
            | _ => .no
          | .ok (false, μ2) => lcGo T tst elt s env f (i + 1) acc μ2
          | _ => .no
noncomputable def cLc (fl : Bool) (T : Tg) (it : MI) (tst : MT) (elt : M) (own : List Nat) : M := fun env μ => (it env μ).bind fun x => (lcGo T tst elt x.1 (wp0 own env) fuel 0 [] x.2).bind fun r => .ok (mkL fl r.1 r.2)
def tTrue : MT := fun _ μ => .ok (true, μ)

section
variable {t : Ct} {G G1 H H1 : Hp} {ρ ρ1 : List Addr} {env : Ev} {μ : Mu} {σ : St} {a : Addr} {o : HO}
theorem Rel.other (R : Rel t G ρ env μ σ H) (hG : G a = none) (hρ : a ∉ ρ) : Rel t G ρ env μ σ (upd H a o) :=
  ⟨fun b u e => by rw [upd_ne (ne_of_none e hG)]; exact R.sub b u e, R.nd, R.gn, R.len, fun n b d e1 e2 => (R.cells n b d e1 e2).mono (.refl _) (.refl _) fun u e => by
    rw [upd_ne (fun z => hρ (by rw [← z]; exact List.mem_of_getElem? e1))]; exact e, R.slen, R.slots⟩
theorem Ext.other (e : Ext G1 ρ1 H1 G ρ H) (h : H1 a = none) : Ext G1 ρ1 H1 G ρ (upd H a o) :=
  ⟨e.sub, e.pre, fun b u q n => by rw [upd_ne (ne_of_none q h)]; exact e.frame b u q n, e.fresh, fun b q => by
    by_cases hb : b = a
    · subst hb; rw [upd_same]; simp
    · rw [upd_ne hb]; exact e.there b q, e.gf⟩
/-- a place that none knew becomes frozen -/
theorem Rel.toG (R : Rel t G ρ env μ σ H) (hG : G a = none) (hρ : a ∉ ρ) (ha : H a = some o) : Rel t (upd G a o) ρ env μ σ H ∧ Same G (upd G a o) := by
  have sG : Same G (upd G a o) := fun b u e => by rw [upd_ne (ne_of_none e hG)]; exact e
  refine ⟨⟨fun b u e => ?_, R.nd, fun b hb => ?_, R.len, fun n b d e1 e2 => (R.cells n b d e1 e2).mono sG (.refl _) fun _ h => h, R.slen, fun i d e => ?_⟩, sG⟩
  · by_cases hb : b = a
    · subst hb; rw [upd_same] at e; rw [← e]; exact ha
    · rw [upd_ne hb] at e; exact R.sub b u e
  · rw [upd_ne (fun z => hρ (by rw [← z]; exact hb))]; exact R.gn b hb
  · obtain ⟨v, h1, h2⟩ := R.slots i d e
    exact ⟨v, h1, rep.mono sG (.refl _) _ _ h2⟩
/-- .. or a cell -/
theorem Rel.toC (R : Rel t G ρ env μ σ H) {c : D} (hG : G a = none) (hρ : a ∉ ρ) (hc : cell t G ρ H a c) : Rel t G (ρ ++ [a]) env (μ ++ [c]) σ H := by
  have pr : Pre ρ (ρ ++ [a]) := ⟨[a], rfl⟩
  refine ⟨R.sub, ?_, fun b hb => ?_, by simp [R.len], fun n b d' e1 e2 => ?_, R.slen, fun i d e => ?_⟩
  · rw [List.nodup_append]
    exact ⟨R.nd, by simp, fun x hx y hy z => by simp at hy; subst hy; subst z; exact hρ hx⟩
  · rcases List.mem_append.mp hb with h | h
    · exact R.gn b h
    · simp at h; subst h; exact hG
  · by_cases hn : n < μ.length
    · rw [List.getElem?_append_left (by rw [R.len]; exact hn)] at e1
      rw [List.getElem?_append_left hn] at e2
      exact (R.cells n b d' e1 e2).mono (.refl _) pr fun _ h => h
    · have : n = μ.length := by
        have := (List.getElem?_eq_some_iff.mp e2).1
        simp at this; omega
      subst this
      rw [← R.len] at e1
      simp at e1 e2
      subst e1 e2
      exact hc.mono (.refl _) pr fun _ h => h
  · obtain ⟨v, h1, h2⟩ := R.slots i d e
    exact ⟨v, h1, rep.mono (.refl _) pr _ _ h2⟩
/-- a new list that stands at a is handed on -/
theorem KE.newL {fl : Bool} {ds : List D} {vs : List V} {Q : VK} (R : Rel t G ρ env μ σ H) (e : Ext G1 ρ1 H1 G ρ H) (h1 : H1 a = none) (hG : G a = none) (hρ : a ∉ ρ) (ha : H a = some (.lst vs)) (r : reps t G ρ ds vs)
    (P : KE t env σ G1 ρ1 H1 Q (mkL fl ds μ)) : Q (.ref a) H := by
  cases fl with
  | true =>
    have R2 := R.toC (c := .lst ds) hG hρ ⟨vs, ha, r⟩
    refine P (.ref a) H (ρ ++ [a]) G ⟨e.sub, e.pre.trans ⟨[a], rfl⟩, e.frame, fun b hb => ?_, e.there, e.gf⟩ R2 ⟨a, by rw [← R.len]; simp, rfl⟩
    rcases List.mem_append.mp hb with h | h
    · exact e.fresh b h
    · simp at h; subst h; exact .inr h1
  | false =>
    obtain ⟨R2, s⟩ := R.toG hG hρ ha
    refine P (.ref a) H ρ (upd G a (.lst vs)) ⟨e.sub.trans s, e.pre, e.frame, e.fresh, e.there, fun b o q => ?_⟩ R2 ⟨a, vs, rfl, upd_same, reps.mono s (.refl _) _ _ r⟩
    by_cases hb : b = a
    · subst hb; exact .inr (.inl h1)
    · rw [upd_ne hb] at q; exact e.gf b o q
end

section
variable {nm : Nm} {X : Cx} {W : XW} {elt tg iter c : Expr} {ifs : List Expr} {scope : Scope} {own : List (Str × Nat)} {pos spos py : Pos} {mi : MI} {T : Tg} {tst : MT} {me : M} {fl : Bool}
/-- the readings of the block's parts, whatever the block's own frame is -/
def aE (X : Cx) (scope : Scope) (e : Expr) : TE := fun σ H Q => ∀ (s : Shared) (H0 : Hp) (C : Addr) (cl : List (Str × Addr)) (fp : List Addr), wpE (X.blk s H0 scope (compEnvC scope cl C X.env) fp) e σ H Q
def aT (X : Cx) (scope : Scope) (e : Expr) : TT := fun σ H Q => ∀ (s : Shared) (H0 : Hp) (C : Addr) (cl : List (Str × Addr)) (fp : List Addr), wpT (X.blk s H0 scope (compEnvC scope cl C X.env) fp) e σ H Q
def aG (X : Cx) (scope : Scope) (e : Expr) : TG := fun v σ H Q => ∀ (s : Shared) (H0 : Hp) (C : Addr) (cl : List (Str × Addr)) (fp : List Addr), wpG (X.blk s H0 scope (compEnvC scope cl C X.env) fp) e v σ H Q
theorem wipe_at (τ : St) (vs : List Nat) (j : Nat) : (wipe τ vs)[j]? = if j ∈ vs then (if j < τ.length then some none else none) else τ[j]? := by
  by_cases hj : j ∈ vs
  · rw [if_pos hj]
    by_cases hlt : j < τ.length
    · rw [if_pos hlt]
      have hw : j < (wipe τ vs).length := by rw [wipe_length]; exact hlt
      cases q : (wipe τ vs)[j]? with
      | none => rw [List.getElem?_eq_none_iff] at q; omega
      | some o =>
        cases o with
        | none => rfl
        | some x => exact absurd hj (wipe_some q).2
    · rw [if_neg hlt, List.getElem?_eq_none_iff, wipe_length]; omega
  · rw [if_neg hj, wipe_out hj]
theorem wipe_wipe (τ : St) (vs : List Nat) : wipe (wipe τ vs) vs = wipe τ vs := by
  refine List.ext_getElem? fun j => ?_
  rw [wipe_at, wipe_at, wipe_length]
  split <;> rfl
theorem wipe_rel {t : Ct} {G H ρ env μ σ} (R : Rel t G ρ env μ σ H) (vs : List Nat) : Rel t G ρ (wp0 vs env) μ (wipe σ vs) H := by
  refine R.reslot (by rw [wipe_length]; simp [wp0, R.slen]) fun i d e => ?_
  unfold wp0 at e
  rw [List.getElem?_mapIdx] at e
  cases q : env[i]? with
  | none => rw [q] at e; cases e
  | some o =>
    rw [q] at e
    simp only [Option.map_some, Option.some.injEq] at e
    split at e
    · cases e
    · rename_i hn
      subst e
      obtain ⟨v, h1, h2⟩ := R.slots i d q
      refine ⟨v, ?_, h2⟩
      rw [wipe_out (by simpa using hn)]
      exact h1
theorem lc_run {tt : TT} (hT : ∀ i ∈ T.slots, i ∈ own.map (·.2)) (htt : ∀ env μ σ H ρ G Q, Rel (ct nm X) G ρ env μ σ H → Po (tst env μ) (KT (ct nm X) env σ G ρ H Q) (fun _ _ _ => False) → tt σ H Q)
    (hg : ∀ (s : Shared) (H0 : Hp) (C : Addr) (cl : List (Str × Addr)) (fp : List Addr), GV nm (X.blk s H0 scope (compEnvC scope cl C X.env) fp) tg T)
    (he : ∀ (s : Shared) (H0 : Hp) (C : Addr) (cl : List (Str × Addr)) (fp : List Addr), EV nm (X.blk s H0 scope (compEnvC scope cl C X.env) fp) (fun _ _ _ _ => False) elt me)
    (hi : IV nm X W tg iter mi) {env μ σ H ρ G Q} (R : Rel (ct nm X) G ρ env μ σ H) (P : Po (cLc fl T mi tst me (own.map (·.2)) env μ) (KE (ct nm X) env σ G ρ H Q) (KX (ct nm X) W env σ G ρ H)) :
    tLc (wpI X tg iter) (aG X scope tg) tt (aE X scope elt) (own.map (·.2)) σ H Q := by
  refine hi.run env μ σ H ρ G _ R ((Po.bind P).imp (fun x hx J H1 ρ1 G1 e1 R1 so => ?_) fun _ _ _ h => h)
  obtain ⟨s, μ1⟩ := x
  have R1 : Rel (ct nm X) G1 ρ1 env μ1 σ H1 := R1
  intro D hD
  have gD1 : G1 D = none := Same.free R1.sub hD
  have nD1 : D ∉ ρ1 := fun z => R1.ρH z hD
  let K : List Lr.D × Mu → Prop := fun r => KE (ct nm X) env σ G1 ρ1 H1 Q (mkL fl r.1 r.2)
  have hx2 : Po (lcGo T tst me s (wp0 (own.map (·.2)) env) fuel 0 [] μ1) K (fun _ _ _ => True) :=
    Po.imp (Po.bind hx) (fun r h => KE.re e1 h) fun _ _ _ _ => trivial
  let Wf : Nat → Nat → Hp → Prop := fun i f H' => ∃ acc vs μ' ρ' G', H' D = some (.lst vs) ∧ reps (ct nm X) G' ρ' acc vs ∧ Ext G1 ρ1 H1 G' ρ' H' ∧ Rel (ct nm X) G' ρ' env μ' σ H' ∧ G' D = none ∧ D ∉ ρ' ∧
    Po (lcGo T tst me s (wp0 (own.map (·.2)) env) f i acc μ') K (fun _ _ _ => True)
  refine ⟨Wf, ⟨fuel, [], [], μ1, ρ1, G1, upd_same, rfl, Ext.other .refl hD, R1.other gD1 nD1, gD1, nD1, hx2⟩, ?_⟩
  rintro i f H' ⟨acc, vs, μ', ρ', G', hD', ra, e3, R3, gD, nD, P3⟩
  cases f with
  | zero => exact P3.elim
  | succ f =>
    unfold lcGo at P3
    cases hq : items s μ' with
    | none => rw [hq] at P3; exact P3.elim
    | some ds =>
      obtain ⟨so1, so2⟩ := so i G' ρ' env μ' σ H' ds e3 R3 hq
      rw [hq] at P3
      dsimp only at P3
      cases hd : ds[i]? with
      | none =>
        rw [hd] at P3
        exact .inl ⟨so2 hd, KE.newL R3 e3 hD gD nD hD' ra P3⟩
      | some d =>
        rw [hd] at P3
        dsimp only at P3
        obtain ⟨go, yl⟩ := so1 d hd
        refine .inr ⟨go, fun H' => Wf (i + 1) f H', fun H' h => ⟨f, Nat.lt_succ_self f, h⟩, fun x H4 y => ?_⟩
        obtain ⟨G4, e4, R4, r4⟩ := yl x H4 y
        cases ht : setT T d (wp0 (own.map (·.2)) env) with
        | none => rw [ht] at P3; exact P3.elim
        | some env3 =>
          rw [ht] at P3
          dsimp only at P3
          intro sh H0 C cl fp
          refine (hg sh H0 C cl fp).run (wp0 (own.map (·.2)) env) μ' (wipe σ (own.map (·.2))) H4 ρ' G4 d x env3 _ (wipe_rel R4 _) r4 ht fun σ3 R5 w5 => ?_
          have wq : wipe σ3 (own.map (·.2)) = wipe σ (own.map (·.2)) := (w5 _ hT).trans (wipe_wipe σ _)
          refine ⟨wq, htt env3 μ' σ3 H4 ρ' G4 _ R5 ?_⟩
          -- back in the def's slots
          have slots : ∀ {G ρ μ H}, Rel (ct nm X) G ρ env3 μ σ3 H → Ext G4 ρ' H4 G ρ H → Rel (ct nm X) G ρ env μ σ H := fun {G ρ μ H} Z x => ⟨Z.sub, Z.nd, Z.gn, Z.len, Z.cells, R4.slen, fun i d e => by
            obtain ⟨v, h1, h2⟩ := R4.slots i d e
            exact ⟨v, h1, x.rep h2⟩⟩
          -- the list made stays known to none
          have keep : ∀ {G5 ρ5 H5}, Ext G' ρ' H' G5 ρ5 H5 → H5 D = some (.lst vs) ∧ G5 D = none ∧ D ∉ ρ5 := fun {G5 ρ5 H5} x => by
            refine ⟨x.frame D _ hD' nD, ?_, fun z => ?_⟩
            · cases q : G5 D with
              | none => rfl
              | some o =>
                rcases x.gf D o q with z | z | ⟨_, z, _, rfl⟩
                · rw [gD] at z; cases z
                · rw [hD'] at z; cases z
                · rw [hD'] at z; cases z
            · rcases x.fresh D z with z | z
              · exact nD z
              · rw [hD'] at z; cases z
          cases hb : tst env3 μ' with
          | ok b =>
            obtain ⟨b, μ2⟩ := b
            rw [hb] at P3
            intro H5 ρ5 G5 e5 R6
            cases b with
            | false =>
              obtain ⟨k1, k2, k3⟩ := keep (e4.trans e5)
              exact iteF ⟨acc, vs, μ2, ρ5, G5, k1, (e4.trans e5).reps ra, (e3.trans e4).trans e5, slots R6 e5, k2, k3, P3⟩
            | true =>
              dsimp only at P3
              refine iteT fun sh H0 C cl fp => ?_
              refine (he sh H0 C cl fp).run env3 μ2 σ3 H5 ρ5 G5 _ R6 ?_
              cases hm : me env3 μ2 with
              | ok z =>
                obtain ⟨z, μ3⟩ := z
                rw [hm] at P3
                dsimp only at P3
                intro v H6 ρ6 G6 e6 R7 r7
                have e46 := (e4.trans e5).trans e6
                obtain ⟨k1, k2, k3⟩ := keep e46
                split at P3
                · rename_i hz
                  refine ⟨vs, k1, by rw [ra.length, lineN_eq]; exact hz, ?_⟩
                  exact ⟨acc ++ [z], vs ++ [v], μ3, ρ6, G6, upd_same, (e46.reps ra).app (reps.one r7), Ext.other (e3.trans e46) hD, (slots R7 (e5.trans e6)).other k2 k3, k2, k3, P3⟩
                · exact P3.elim
              | ex => rw [hm] at P3; exact P3.elim
              | no => rw [hm] at P3; exact P3.elim
          | ex => rw [hb] at P3; exact P3.elim
          | no => rw [hb] at P3; exact P3.elim
theorem ev_lc (fl : Bool) (hc : X.calm = true) (hN : X.N.Nodup) (hi : IV nm X W tg iter mi) (own : List (Str × Nat)) (ok : blkC X.N X.env.scope scope own = true) (hT : T.slots.all (fun i => (own.map (·.2)).contains i) = true)
    (hg : ∀ (s : Shared) (H0 : Hp) (C : Addr) (cl : List (Str × Addr)) (fp : List Addr), GV nm (X.blk s H0 scope (compEnvC scope cl C X.env) fp) tg T)
    (he : ∀ (s : Shared) (H0 : Hp) (C : Addr) (cl : List (Str × Addr)) (fp : List Addr), EV nm (X.blk s H0 scope (compEnvC scope cl C X.env) fp) (fun _ _ _ _ => False) elt me)
    (hs : ∀ x, foldedSetIterable iter X.env x = pure x := by intro _; rfl) : EV nm X W (.ListComp elt [⟨tg, iter, [], 0⟩] scope pos) (cLc fl T mi tTrue me (own.map (·.2))) :=
  ev_of (pe_lc (tt := tYes) hc hN pi_wp (blkOk_by ok) (g := aG X scope tg) (te := aE X scope elt) (fun s H C cl fp => ⟨fun pins s' σ H' v u Q I r h => h s H C cl fp pins s' u I r⟩) (fun _ _ _ _ _ => pts_nil) (fun s H C cl fp => ⟨fun pins s' σ H' Q I h => h s H C cl fp pins s' I⟩) hs) fun env μ σ H ρ G Q R P =>
    lc_run (tst := tTrue) (fun i hi => by simpa using List.all_eq_true.mp hT i hi) (fun env μ σ H ρ G Q R P => P H ρ G .refl R) hg he hi R P
theorem ev_lcIf (fl : Bool) (hc : X.calm = true) (hN : X.N.Nodup) (hi : IV nm X W tg iter mi) (own : List (Str × Nat)) (ok : blkC X.N X.env.scope scope own = true) (hT : T.slots.all (fun i => (own.map (·.2)).contains i) = true)
    (hg : ∀ (s : Shared) (H0 : Hp) (C : Addr) (cl : List (Str × Addr)) (fp : List Addr), GV nm (X.blk s H0 scope (compEnvC scope cl C X.env) fp) tg T)
    (ht : ∀ (s : Shared) (H0 : Hp) (C : Addr) (cl : List (Str × Addr)) (fp : List Addr), TV nm (X.blk s H0 scope (compEnvC scope cl C X.env) fp) (fun _ _ _ _ => False) c tst)
    (he : ∀ (s : Shared) (H0 : Hp) (C : Addr) (cl : List (Str × Addr)) (fp : List Addr), EV nm (X.blk s H0 scope (compEnvC scope cl C X.env) fp) (fun _ _ _ _ => False) elt me)
    (hs : ∀ x, foldedSetIterable iter X.env x = pure x := by intro _; rfl) : EV nm X W (.ListComp elt [⟨tg, iter, [c], 0⟩] scope pos) (cLc fl T mi tst me (own.map (·.2))) :=
  ev_of (pe_lc (tt := aT X scope c) hc hN pi_wp (blkOk_by ok) (g := aG X scope tg) (te := aE X scope elt) (fun s H C cl fp => ⟨fun pins s' σ H' v u Q I r h => h s H C cl fp pins s' u I r⟩) (fun s H C cl fp => pts_one ⟨fun pins s' σ H' Q I h => h s H C cl fp pins s' I⟩) (fun s H C cl fp => ⟨fun pins s' σ H' Q I h => h s H C cl fp pins s' I⟩) hs) fun env μ σ H ρ G Q R P =>
    lc_run (fun i hi => by simpa using List.all_eq_true.mp hT i hi) (fun env μ σ H ρ G Q R P s H0 C cl fp => (ht s H0 C cl fp).run env μ σ H ρ G Q R (P.imp (fun _ h => h) fun _ _ _ h => h.elim)) hg he hi R P
/-! y = [..] -/
theorem sv_setLc (fl : Bool) {i : Nat} {y : Str} (hc : X.calm = true) (hN : X.N.Nodup) (hi : IV nm X W tg iter mi) (own : List (Str × Nat)) (ok : blkC X.N X.env.scope scope own = true) (hT : T.slots.all (fun i => (own.map (·.2)).contains i) = true)
    (hg : ∀ (s : Shared) (H0 : Hp) (C : Addr) (cl : List (Str × Addr)) (fp : List Addr), GV nm (X.blk s H0 scope (compEnvC scope cl C X.env) fp) tg T)
    (he : ∀ (s : Shared) (H0 : Hp) (C : Addr) (cl : List (Str × Addr)) (fp : List Addr), EV nm (X.blk s H0 scope (compEnvC scope cl C X.env) fp) (fun _ _ _ _ => False) elt me)
    (hsw : swapsWith (.ListComp elt [⟨tg, iter, [], 0⟩] scope pos) (some (.Name y py)) spos.line X.env = pure true) (hy : X.N[i]? = some y := by rfl) (hyl : X.env.scope.names.lookup y = some .local := by rfl) (hs : ∀ x, foldedSetIterable iter X.env x = pure x := by intro _; rfl) :
    SV nm X W (.Assign [.Name y py] (.ListComp elt [⟨tg, iter, [], 0⟩] scope pos) spos) (sSet i (cLc fl T mi tTrue me (own.map (·.2)))) := ⟨fun env μ σ H ρ G D R P =>
  to_s (ps_setLc (tt := tYes) hc hN hy hyl hsw pi_wp (blkOk_by ok) (g := aG X scope tg) (te := aE X scope elt) (fun s H C cl fp => ⟨fun pins s' σ H' v u Q I r h => h s H C cl fp pins s' u I r⟩) (fun _ _ _ _ _ => pts_nil) (fun s H C cl fp => ⟨fun pins s' σ H' Q I h => h s H C cl fp pins s' I⟩) hs) (by
    refine lc_run (tst := tTrue) (fun i hi => by simpa using List.all_eq_true.mp hT i hi) (fun env μ σ H ρ G Q R P => P H ρ G .refl R) hg he hi R ((eT R P).imp (fun x hx v H1 ρ1 G1 e1 R1 r => hx _ H1 ρ1 G1 e1 (R1.setSlot r)) fun _ _ _ h => h))⟩
theorem sv_setLcIf (fl : Bool) {i : Nat} {y : Str} (hc : X.calm = true) (hN : X.N.Nodup) (hi : IV nm X W tg iter mi) (own : List (Str × Nat)) (ok : blkC X.N X.env.scope scope own = true) (hT : T.slots.all (fun i => (own.map (·.2)).contains i) = true)
    (hg : ∀ (s : Shared) (H0 : Hp) (C : Addr) (cl : List (Str × Addr)) (fp : List Addr), GV nm (X.blk s H0 scope (compEnvC scope cl C X.env) fp) tg T)
    (ht : ∀ (s : Shared) (H0 : Hp) (C : Addr) (cl : List (Str × Addr)) (fp : List Addr), TV nm (X.blk s H0 scope (compEnvC scope cl C X.env) fp) (fun _ _ _ _ => False) c tst)
    (he : ∀ (s : Shared) (H0 : Hp) (C : Addr) (cl : List (Str × Addr)) (fp : List Addr), EV nm (X.blk s H0 scope (compEnvC scope cl C X.env) fp) (fun _ _ _ _ => False) elt me)
    (hsw : swapsWith (.ListComp elt [⟨tg, iter, [c], 0⟩] scope pos) (some (.Name y py)) spos.line X.env = pure true) (hy : X.N[i]? = some y := by rfl) (hyl : X.env.scope.names.lookup y = some .local := by rfl) (hs : ∀ x, foldedSetIterable iter X.env x = pure x := by intro _; rfl) :
    SV nm X W (.Assign [.Name y py] (.ListComp elt [⟨tg, iter, [c], 0⟩] scope pos) spos) (sSet i (cLc fl T mi tst me (own.map (·.2)))) := ⟨fun env μ σ H ρ G D R P =>
  to_s (ps_setLc (tt := aT X scope c) hc hN hy hyl hsw pi_wp (blkOk_by ok) (g := aG X scope tg) (te := aE X scope elt) (fun s H C cl fp => ⟨fun pins s' σ H' v u Q I r h => h s H C cl fp pins s' u I r⟩) (fun s H C cl fp => pts_one ⟨fun pins s' σ H' Q I h => h s H C cl fp pins s' I⟩) (fun s H C cl fp => ⟨fun pins s' σ H' Q I h => h s H C cl fp pins s' I⟩) hs) (by
    refine lc_run (fun i hi => by simpa using List.all_eq_true.mp hT i hi) (fun env μ σ H ρ G Q R P s H0 C cl fp => (ht s H0 C cl fp).run env μ σ H ρ G Q R (P.imp (fun _ h => h) fun _ _ _ h => h.elim)) hg he hi R ((eT R P).imp (fun x hx v H1 ρ1 G1 e1 R1 r => hx _ H1 ρ1 G1 e1 (R1.setSlot r)) fun _ _ _ h => h))⟩
end
end Lr

/-! Lr, part 11: stores by place and key; x op= e; built-ins by name. -/
namespace Lr
open PySem L2

/-! ### o[i] = e -/
def putD (kvs : List (D × D)) (k v : D) : List (D × D) := if kvs.any (fun p => kEq p.1 k) then kvs.map (fun p => if kEq p.1 k then (p.1, v) else p) else kvs ++ [(k, v)]
def dSet (o i v : D) (μ : Mu) : Option Mu := match o with
  | .ref n => match μ[n]? with
    | some (.lst ds) => match i with
      | .int k => match ixN ds.length k with
        | some j => some (μ.set n (.lst (ds.set j v)))
        | none => none
      | _ => none
    | some (.dic kvs) => if isK i ∧ kvs.length < lineN then some (μ.set n (.dic (putD kvs i v))) else none
    | some (.dit kvs) => if (keyT i).isSome ∧ kvs.length < lineN then some (μ.set n (.dit (putD kvs i v))) else none
    | _ => none
  | _ => none
def sSub (mo mi ma : M) : SM := fun env μ => eThen ((ma env μ).bind fun x => (mo env x.2).bind fun y => (mi env y.2).bind fun z => .ok (x.1, y.1, z)) env fun r => (dSet r.2.1 r.2.2.1 r.1 r.2.2.2).map fun μ' => .nx env μ'
section
variable {t : Ct} {G H : Hp} {ρ : List Addr}
theorem any_k {k : D} {k' : Key} (hk : keyOf k = some k') : ∀ {kvs : List (D × D)} {ks : List (Key × V)}, repk t G ρ kvs ks → (kvs.any fun p => kEq p.1 k) = ks.any fun kv => decide (kv.1 = k')
  | [], _, h => by cases h; rfl
  | (a, d) :: r, _, ⟨x, v, r', e, hx, h1, h2⟩ => by
    subst e
    rw [List.any_cons, List.any_cons, any_k hk h2, keyOf_eq hx hk]
theorem any_t {k : D} {k' : List Key} (hk : keyT k = some k') : ∀ {kvs : List (D × D)} {ks : List (List Key × V)}, repkT t G ρ kvs ks → (kvs.any fun p => kEq p.1 k) = ks.any fun kv => decide (kv.1 = k')
  | [], _, h => by cases h; rfl
  | (a, d) :: r, _, ⟨x, v, r', e, hx, h1, h2⟩ => by
    subst e
    rw [List.any_cons, List.any_cons, any_t hk h2, keyT_eq hx hk]
theorem map_k {k d0 : D} {k' : Key} {v0 : V} (hk : keyOf k = some k') (h0 : rep t G ρ d0 v0) : ∀ {kvs : List (D × D)} {ks : List (Key × V)}, repk t G ρ kvs ks → repk t G ρ (kvs.map fun p => if kEq p.1 k then (p.1, d0) else p) (ks.map fun kv => if kv.1 = k' then (kv.1, v0) else kv)
  | [], _, h => by cases h; rfl
  | (a, d) :: r, _, ⟨x, v, r', e, hx, h1, h2⟩ => by
    subst e
    rw [List.map_cons, List.map_cons]
    dsimp only
    rw [keyOf_eq hx hk]
    by_cases c : x = k'
    · rw [if_pos (decide_eq_true c), if_pos c]
      exact ⟨x, v0, _, rfl, hx, h0, map_k hk h0 h2⟩
    · rw [if_neg (by simpa using c), if_neg c]
      exact ⟨x, v, _, rfl, hx, h1, map_k hk h0 h2⟩
theorem map_t {k d0 : D} {k' : List Key} {v0 : V} (hk : keyT k = some k') (h0 : rep t G ρ d0 v0) : ∀ {kvs : List (D × D)} {ks : List (List Key × V)}, repkT t G ρ kvs ks → repkT t G ρ (kvs.map fun p => if kEq p.1 k then (p.1, d0) else p) (ks.map fun kv => if kv.1 = k' then (kv.1, v0) else kv)
  | [], _, h => by cases h; rfl
  | (a, d) :: r, _, ⟨x, v, r', e, hx, h1, h2⟩ => by
    subst e
    rw [List.map_cons, List.map_cons]
    dsimp only
    rw [keyT_eq hx hk]
    by_cases c : x = k'
    · rw [if_pos (decide_eq_true c), if_pos c]
      exact ⟨x, v0, _, rfl, hx, h0, map_t hk h0 h2⟩
    · rw [if_neg (by simpa using c), if_neg c]
      exact ⟨x, v, _, rfl, hx, h1, map_t hk h0 h2⟩
theorem app_k : ∀ {kvs kvs' : List (D × D)} {ks ks' : List (Key × V)}, repk t G ρ kvs ks → repk t G ρ kvs' ks' → repk t G ρ (kvs ++ kvs') (ks ++ ks')
  | [], _, _, _, h, k => by cases h; exact k
  | (a, d) :: r, _, _, ks', ⟨x, v, r', e, hx, h1, h2⟩, k => by subst e; exact ⟨x, v, r' ++ ks', rfl, hx, h1, app_k h2 k⟩
theorem app_t : ∀ {kvs kvs' : List (D × D)} {ks ks' : List (List Key × V)}, repkT t G ρ kvs ks → repkT t G ρ kvs' ks' → repkT t G ρ (kvs ++ kvs') (ks ++ ks')
  | [], _, _, _, h, k => by cases h; exact k
  | (a, d) :: r, _, _, ks', ⟨x, v, r', e, hx, h1, h2⟩, k => by subst e; exact ⟨x, v, r' ++ ks', rfl, hx, h1, app_t h2 k⟩
theorem put_k {k d0 : D} {k' : Key} {v0 : V} (hk : keyOf k = some k') (h0 : rep t G ρ d0 v0) {kvs : List (D × D)} {ks : List (Key × V)} (h : repk t G ρ kvs ks) : repk t G ρ (putD kvs k d0) (putK ks k' v0) := by
  unfold putD putK
  rw [any_k hk h]
  split
  · exact map_k hk h0 h
  · exact app_k h ⟨k', v0, [], rfl, hk, h0, rfl⟩
theorem put_t {k d0 : D} {k' : List Key} {v0 : V} (hk : keyT k = some k') (h0 : rep t G ρ d0 v0) {kvs : List (D × D)} {ks : List (List Key × V)} (h : repkT t G ρ kvs ks) : repkT t G ρ (putD kvs k d0) (putK ks k' v0) := by
  unfold putD putK
  rw [any_t hk h]
  split
  · exact map_t hk h0 h
  · exact app_t h ⟨k', v0, [], rfl, hk, h0, rfl⟩
theorem repk_len : ∀ {kvs : List (D × D)} {ks : List (Key × V)}, repk t G ρ kvs ks → ks.length = kvs.length
  | [], _, h => by cases h; rfl
  | (a, d) :: r, _, ⟨x, v, r', e, hx, h1, h2⟩ => by subst e; rw [List.length_cons, List.length_cons, repk_len h2]
theorem repkT_len : ∀ {kvs : List (D × D)} {ks : List (List Key × V)}, repkT t G ρ kvs ks → ks.length = kvs.length
  | [], _, h => by cases h; rfl
  | (a, d) :: r, _, ⟨x, v, r', e, hx, h1, h2⟩ => by subst e; rw [List.length_cons, List.length_cons, repkT_len h2]
end
def rSetA : V → V → V → Hp → (Hp → Prop) → Prop := fun o i v H Q => rSetL o i v H Q ∨ ∃ a H', o = .ref a ∧ DPut H a i v H' ∧ Q H'
section
variable {nm : Nm} {X : Cx} {W : XW} {a b c e o i tg it : Expr} {es : List Expr} {pos p apos pos' : Pos} {ms : MA} {ma mo mi : M}
theorem set_all (hu : X.A.units + 65 < cLine) : PSet X rSetA := by
  intro pins s σ H o i v ov iv u Q I ro ri rv h
  rcases h with h | ⟨a, H', rfl, g, q⟩
  · exact set_list pins s σ H o i v ov iv u Q I ro ri rv h
  · cases ro
    exact d_setItem (by omega) I g ri rv fun s' I' => ⟨H', I', q⟩
theorem dSet_ok {env μ σ H ρ G} {d k x : D} {v w u : V} {μ' : Mu} {Q : Hp → Prop} (R : Rel (ct nm X) G ρ env μ σ H) (r1 : rep (ct nm X) G ρ d v) (r2 : rep (ct nm X) G ρ k w) (r3 : rep (ct nm X) G ρ x u) (e : dSet d k x μ = some μ')
    (hq : ∀ H', Ext G ρ H G ρ H' → Rel (ct nm X) G ρ env μ' σ H' → Q H') : rSetA v w u H Q := by
  unfold dSet at e
  split at e
  · rename_i n
    obtain ⟨a, ea, rfl⟩ := r1
    split at e
    · rename_i ds q
      obtain ⟨vs, h, rs⟩ := R.cells n a _ ea q
      split at e
      · rename_i z
        cases r2
        split at e
        · rename_i j hj
          cases e
          obtain ⟨R2, e2⟩ := R.setCell (o := .lst (vs.set j u)) (d := .lst (ds.set j x)) ea ⟨_, upd_same, rs.set r3 j⟩
          exact .inl ⟨a, vs, z, j, rfl, rfl, h, by rw [rs.length]; exact hj, hq _ e2 R2⟩
        · cases e
      · cases e
    · rename_i kvs q
      obtain ⟨ks, h, rs⟩ := R.cells n a _ ea q
      split at e
      · rename_i hz
        cases e
        obtain ⟨k', q1, rfl⟩ := rep_key r2 hz.1
        obtain ⟨R2, e2⟩ := R.setCell (o := .dK (putK ks k' u)) (d := .dic (putD kvs k x)) ea ⟨_, upd_same, put_k q1 r3 rs⟩
        exact .inr ⟨a, _, rfl, DPut.k h (by rw [repk_len rs, lineN_eq]; exact hz.2), hq _ e2 R2⟩
      · cases e
    · rename_i kvs q
      obtain ⟨ks, h, rs⟩ := R.cells n a _ ea q
      split at e
      · rename_i hz
        cases e
        obtain ⟨k', q1⟩ := Option.isSome_iff_exists.mp hz.1
        obtain ⟨b, rfl, hb⟩ := rep_keyT R r2 q1
        obtain ⟨R2, e2⟩ := R.setCell (o := .dT (putK ks k' u)) (d := .dit (putD kvs k x)) ea ⟨_, upd_same, put_t q1 r3 rs⟩
        exact .inr ⟨a, _, rfl, DPut.t h hb (by rw [repkT_len rs, lineN_eq]; exact hz.2), hq _ e2 R2⟩
      · cases e
    · cases e
  · cases e
theorem sv_sub (hu : X.A.units + 65 < cLine) (he : EV nm X W e ma) (ho : EV nm X W o mo) (hi : EV nm X W i mi)
    (ha : ∀ v, assign (.Subscript o i pos') X.env v = (do
      let ov ← holding [v] (eval o X.env)
      let iv ← holding [v, ov] (eval i X.env)
      standAt pos'
      holding [v, ov, iv] (setItem ov iv v)
      release [v, ov, iv] []) := by intro _; rfl)
    (hs : swapsWithSole [.Subscript o i pos'] e pos.line X.env = pure false := by rfl) (hw : swappedStores [.Subscript o i pos'] e X.env = pure none := by rfl)
    (h1 : (assignEach [.Subscript o i pos'] X.env).map (·.2) = [assign (.Subscript o i pos') X.env] := by rfl) : SV nm X W (.Assign [.Subscript o i pos'] e pos) (sSub mo mi ma) := ⟨fun env μ σ H ρ G D R P => to_s (ps_asg pe_wp (pg_sub pe_wp pe_wp (set_all hu) ha) hs hw h1) (by
  unfold sSub at P
  refine he.run env μ σ H ρ G _ R ((Po.bind (eT R P)).imp (fun x hx v H1 ρ1 G1 e1 R1 r1 => ?_) fun _ _ _ h => h)
  refine ho.run env x.2 σ H1 ρ1 G1 _ R1 ((Po.bind hx).imp (fun y hy w H2 ρ2 G2 e2 R2 r2 => ?_) fun c ds μ h => KX.re e1 h)
  refine hi.run env y.2 σ H2 ρ2 G2 _ R2 ((Po.bind hy).imp (fun z hz u H3 ρ3 G3 e3 R3 r3 => ?_) fun c ds μ h => KX.re (e1.trans e2) h)
  obtain ⟨dk, μ3⟩ := z
  replace hz : PoS ((dSet y.1 dk x.1 μ3).map fun μ' => .nx env μ') (KS (ct nm X) W G ρ H D) := hz
  cases q : dSet y.1 dk x.1 μ3 with
  | none => rw [q] at hz; exact hz.elim
  | some μ' =>
    rw [q] at hz
    exact dSet_ok R3 (e3.rep r2) r3 ((e2.trans e3).rep r1) q fun H' x R' => hz σ H' ρ3 G3 (((e1.trans e2).trans e3).trans x) R')⟩

/-! ### x op= e -/
def sAug (i : Nat) (f : F2) (ma : M) : SM := fun env μ => match env[i]? with
  | some (some d) => eThen ((ma env μ).bind fun y => f d y.1 y.2) env fun r => some (.nx (env.set i (some r.1)) r.2)
  | _ => none
def dIAdd : F2 := fun a b μ => match a, b with
  | .int i, .int j => .ok (.int (i + j), μ)
  | .str x, .str y => if x.length + y.length ≤ lineN then .ok (.str (x ++ y), μ) else .no
  | _, _ => .no
def dISub : F2 := fun a b μ => match a, b with
  | .int i, .int j => .ok (.int (i - j), μ)
  | _, _ => .no
def rIAdd : R2 := fun x y H Q => (ipI fun i j => i + j) x y H Q ∨ (∃ i j, x = .str i ∧ y = .str j ∧ i.length + j.length ≤ sizeLine ∧ Q (.str (i ++ j)) H)
theorem ipr_add : PIp X .Add rIAdd := by
  intro pins s σ H x y v u Q I rx ry h
  rcases h with h | h
  · exact ip_add pins s σ H x y v u Q I rx ry h
  · exact iop_add_str pins s σ H x y v u Q I rx ry h
theorem op2_iadd : Op2 nm X W dIAdd rIAdd := by
  intro env μ σ H ρ G Q d1 d2 v1 v2 R r1 r2 P
  unfold dIAdd at P
  split at P
  · cases r1; cases r2
    exact .inl ⟨_, _, rfl, rfl, P _ H ρ G .refl R rfl⟩
  · obtain ⟨rfl, o1⟩ := r1
    obtain ⟨rfl, o2⟩ := r2
    split at P
    · rename_i hz
      refine .inr ⟨_, _, rfl, rfl, ?_, P _ H ρ G .refl R ⟨by rw [S_app], okS_app o1 o2 hz⟩⟩
      rw [S_len, S_len, lineN_eq]; exact hz
    · exact P.elim
  · exact P.elim
theorem op2_isub : Op2 nm X W dISub (ipI fun i j => i - j) := by
  intro env μ σ H ρ G Q d1 d2 v1 v2 R r1 r2 P
  unfold dISub at P
  split at P
  · cases r1; cases r2
    exact ⟨_, _, rfl, rfl, P _ H ρ G .refl R rfl⟩
  · exact P.elim
theorem sv_aug {i : Nat} {x : Str} {op : Operator} {f : F2} {r : R2} (hp : PIp X op r) (hf : Op2 nm X W f r) (hN : X.N.Nodup) (he : EV nm X W e ma) (hi : X.N[i]? = some x := by rfl) (hx : Loc X.env.scope x := by first | exact Or.inl rfl | exact Or.inr rfl)
    (hff : X.fn x = true ∨ X.env.scope.names.lookup x = some .local := by first | exact .inl rfl | exact .inr rfl | assumption) : SV nm X W (.AugAssign (.Name x pos') op e pos) (sAug i f ma) := ⟨fun env μ σ H ρ G D R P => to_s (ps_aug hN hi hx pe_wp hp hff) (by
  unfold sAug at P
  split at P
  · rename_i d q
    obtain ⟨v, h1, h2⟩ := R.slots i d q
    refine ⟨v, h1, ?_⟩
    refine he.run env μ σ H ρ G _ R ((Po.bind (eT R P)).imp (fun y hy w H1 ρ1 G1 e1 R1 r1 => ?_) fun _ _ _ h => h)
    refine hf env y.2 σ H1 ρ1 G1 _ d y.1 v w R1 (e1.rep h2) r1 (Po.imp hy (fun z hz u H2 ρ2 G2 e2 R2 r2 => ?_) fun c ds μ h => KX.re e1 h)
    exact hz _ H2 ρ2 G2 (e1.trans e2) (R2.setSlot r2)
  · exact P.elim)⟩
end
end Lr

/-! Lr, part 12: built-ins by name, methods of built-in types. -/
namespace Lr
open PySem L2

section
variable {nm : Nm} {X : Cx} {W : XW} {e o : Expr} {es : List Expr} {pos p apos : Pos} {ms : MA} {ma : M} {x : Str}
theorem ev_cb {id : String} {r : List V → Hp → VK → Prop} {f : FN} (hc : CallR X (.builtin id) r) (hf : OpN nm X W f r) (hm : X.mg x = none) (ha : AV nm X W (e :: es) ms) (hg : Gl X x := by rfl) (hv : bootBuiltins x = some (.builtin id) := by decide +kernel)
    (hn : x ≠ "__name__" := by decide) (hdb : (x == ("__debug__" : Str)) = false := by decide) (hs : starEach (e :: es) X.env = (false, eval e X.env) :: starEach es X.env := by rfl) (hpl : (backTo pos (starEach es X.env)).any (·.1) = false := by rfl) :
    EV nm X W (.Call (.Name x p) (e :: es) [] pos) (cF f ms) := ev_of (pe_callB hc hg hm hv pa_wp hn hdb hs hpl) fun env μ σ H ρ G Q R P => args_run ha hf R P
theorem ev_ct {T : String} {r : List V → Hp → VK → Prop} {f : FN} (hc : CallR X (.type T) r) (hf : OpN nm X W f r) (hm : X.mg x = none) (ha : AV nm X W (e :: es) ms) (hg : Gl X x := by rfl) (hv : bootBuiltins x = some (.type T) := by decide +kernel)
    (hn : x ≠ "__name__" := by decide) (hdb : (x == ("__debug__" : Str)) = false := by decide) (hs : starEach (e :: es) X.env = (false, eval e X.env) :: starEach es X.env := by rfl) (hpl : (backTo pos (starEach es X.env)).any (·.1) = false := by rfl) :
    EV nm X W (.Call (.Name x p) (e :: es) [] pos) (cF f ms) := ev_of (pe_callTy hc hg hm hv pa_wp hn hdb hs hpl) fun env μ σ H ρ G Q R P => args_run ha hf R P
/-! len -/
def dLen : FN := fun ds μ => match ds with
  | [d] => match d with
    | .str z => .ok (.int z.length, μ)
    | .tup xs => .ok (.int xs.length, μ)
    | d => match lof d μ with
      | some xs => .ok (.int xs.length, μ)
      | none => match dof d μ with
        | some (.dic kvs) => .ok (.int kvs.length, μ)
        | some (.dit kvs) => .ok (.int kvs.length, μ)
        | _ => .no
  | _ => .no
def rLen (X : Cx) : List V → Hp → VK → Prop := fun xs H Q => ((∃ z, xs = [.str z] ∧ z.length ≤ sizeLine ∧ Q (.int z.length) H) ∨ (∃ p ys, xs = [.ref p] ∧ (SqL X.K H p ys ∨ SqT X.K H p ys) ∧ Q (.int ys.length) H)) ∨
  ((∃ a kvs, xs = [V.ref a] ∧ H a = some (.dK kvs) ∧ Q (.int kvs.length) H) ∨ rLenT xs H Q)
theorem callr_len : CallR X (.builtin "len") (rLen X) := (call_len_str.or call_len_seq).or (call_lenD.or call_len_dT)
theorem dof_ok {env μ σ H ρ G} (R : Rel (ct nm X) G ρ env μ σ H) {d dd : D} {v : V} (r : rep (ct nm X) G ρ d v) (e : dof d μ = some dd) :
    ∃ a, v = .ref a ∧ ((∃ kvs ks, dd = .dic kvs ∧ H a = some (.dK ks) ∧ repk (ct nm X) G ρ kvs ks) ∨ ∃ kvs ks, dd = .dit kvs ∧ H a = some (.dT ks) ∧ repkT (ct nm X) G ρ kvs ks) := by
  unfold dof at e
  split at e
  · cases e
    obtain ⟨a, ks, rfl, q, rk⟩ := r
    exact ⟨a, rfl, .inl ⟨_, _, rfl, R.sub _ _ q, rk⟩⟩
  · cases e
    obtain ⟨a, ks, rfl, q, rk⟩ := r
    exact ⟨a, rfl, .inr ⟨_, _, rfl, R.sub _ _ q, rk⟩⟩
  · rename_i n
    obtain ⟨a, e3, rfl⟩ := r
    split at e
    · rename_i kvs q
      cases e
      obtain ⟨ks, q2, rk⟩ := R.cells n a _ e3 q
      exact ⟨a, rfl, .inl ⟨_, _, rfl, q2, rk⟩⟩
    · rename_i kvs q
      cases e
      obtain ⟨ks, q2, rk⟩ := R.cells n a _ e3 q
      exact ⟨a, rfl, .inr ⟨_, _, rfl, q2, rk⟩⟩
    · cases e
  · cases e
theorem opn_len : OpN nm X W dLen (rLen X) := by
  intro env μ σ H ρ G Q ds vs R r P
  unfold dLen at P
  split at P
  · obtain ⟨v, r0, rfl, rv, hr⟩ := r
    cases hr
    split at P
    · obtain ⟨rfl, o⟩ := rv
      refine .inl (.inl ⟨_, rfl, by rw [S_len, lineN_eq]; exact okS_len o, ?_⟩)
      rw [S_len]
      exact P _ H ρ G .refl R rfl
    · obtain ⟨a, vs, rfl, q, rs⟩ := tup_H R rv
      refine .inl (.inr ⟨a, vs, rfl, .inr q, ?_⟩)
      rw [rs.length]
      exact P _ H ρ G .refl R rfl
    · split at P
      · rename_i e0
        obtain ⟨a, vs, rfl, q, rs⟩ := lof_ok R rv e0
        refine .inl (.inr ⟨a, vs, rfl, .inl q, ?_⟩)
        rw [rs.length]
        exact P _ H ρ G .refl R rfl
      · split at P
        · rename_i e0
          obtain ⟨a, rfl, ⟨_, ks, e1, h, rk⟩ | ⟨_, ks, e1, h, rk⟩⟩ := dof_ok R rv e0
          · cases e1
            refine .inr (.inl ⟨a, ks, rfl, h, ?_⟩)
            rw [repk_len rk]
            exact P _ H ρ G .refl R rfl
          · cases e1
        · rename_i e0
          obtain ⟨a, rfl, ⟨_, ks, e1, h, rk⟩ | ⟨_, ks, e1, h, rk⟩⟩ := dof_ok R rv e0
          · cases e1
          · cases e1
            refine .inr (.inr ⟨a, ks, rfl, h, ?_⟩)
            rw [repkT_len rk]
            exact P _ H ρ G .refl R rfl
        · exact P.elim
  · exact P.elim
/-! isinstance(x, T), T a built-in type -/
def tyN (d : D) (μ : Mu) : Option String := match d with
  | .non => some "NoneType"
  | .bl _ => some "bool"
  | .int _ => some "int"
  | .str _ => some "str"
  | .tup _ => some "tuple"
  | d => if (lof d μ).isSome then some "list" else if (dof d μ).isSome then some "dict" else none
def dIsi (T : String) : F1 := fun d μ => match tyN d μ with
  | some t => match kitB t T with
    | some b => .ok (.bl b, μ)
    | none => .no
  | none => .no
theorem tyN_ok {env μ σ H ρ G} (R : Rel (ct nm X) G ρ env μ σ H) {d : D} {v : V} {t : String} (r : rep (ct nm X) G ρ d v) (e : tyN d μ = some t) : TyX X.K H v (.type t) := by
  unfold tyN at e
  split at e
  · cases e; cases r; exact .base .non
  · cases e; cases r; exact .base (.bl _)
  · cases e; cases r; exact .base (.int _)
  · cases e; obtain ⟨rfl, _⟩ := r; exact .base (.str _)
  · cases e
    obtain ⟨a, vs, rfl, q, _⟩ := tup_T R r
    exact .base (.tup q)
  · split at e
    · rename_i h
      cases e
      obtain ⟨ds, h⟩ := Option.isSome_iff_exists.mp h
      obtain ⟨a, vs, rfl, q, _⟩ := lof_ok R r h
      rcases q with (q | ⟨o, q⟩) | ⟨o, _, _, q, c, _⟩
      · exact .base (.lst q)
      · exact .base (.frz q)
      · exact .kList q c
    · split at e
      · rename_i h
        cases e
        obtain ⟨dd, h⟩ := Option.isSome_iff_exists.mp h
        obtain ⟨a, rfl, ⟨_, ks, e1, h, rk⟩ | ⟨_, ks, e1, h, rk⟩⟩ := dof_ok R r h
        · exact .base (.dK h)
        · exact .base (.dT h)
      · cases e
theorem ev_isi {T : String} {y : Str} {p2 : Pos} (hm : X.mg "isinstance" = none) (hmT : X.mg y = none) (ha : EV nm X W e ma) (hg : Gl X "isinstance" := by rfl) (hgT : Gl X y := by rfl) (hT : bootBuiltins y = some (.type T) := by decide +kernel)
    (hnT : y ≠ "__name__" := by decide) (hdT : (y == ("__debug__" : Str)) = false := by decide)
    (hs : starEach [e, .Name y p2] X.env = (false, eval e X.env) :: starEach [.Name y p2] X.env := by rfl) (hs2 : starEach [.Name y p2] X.env = (false, eval (.Name y p2) X.env) :: starEach [] X.env := by rfl) (hpl : (backTo pos (starEach [.Name y p2] X.env)).any (·.1) = false := by rfl) :
    EV nm X W (.Call (.Name "isinstance" p) [e, .Name y p2] [] pos) (cU (dIsi T) ma) :=
  ev_of (pe_callB call_isi hg hm (by decide +kernel) (pa_cons pe_wp (pa_cons (pe_bltn (v := .ty T) hgT hmT hT rfl hnT hdT) pa_nil hs2) hs) (by decide) (by decide) hs hpl) fun env μ σ H ρ G Q R P => by
  refine ha.run env μ σ H ρ G _ R ((Po.bind P).imp (fun z hz v H1 ρ1 G1 e1 R1 r1 => ?_) fun _ _ _ h => h)
  unfold dIsi at hz
  split at hz
  · rename_i t et
    split at hz
    · rename_i b eb
      exact ⟨v, .ty T, .type t, .type T, b, rfl, .ty T, tyN_ok R1 r1 et, kit_ty eb, hz _ H1 ρ1 G1 e1 R1 rfl⟩
    · exact hz.elim
  · exact hz.elim
/-! tuple(x), list(x) -/
def dTuple : FN := fun ds μ => match ds with
  | [d] => match d with
    | .tup xs => .ok (.tup xs, μ)
    | d => match lof d μ with
      | some xs => .ok (.tup xs, μ)
      | none => .no
  | _ => .no
theorem opn_tuple : OpN nm X W dTuple (fun xs H Q => ∃ p ys, xs = [.ref p] ∧ ((SqL X.K H p ys ∧ ∀ l, H l = none → Q (.ref l) (upd H l (.tup ys))) ∨ (SqT X.K H p ys ∧ Q (.ref p) H))) := by
  intro env μ σ H ρ G Q ds vs R r P
  unfold dTuple at P
  split at P
  · obtain ⟨v, r0, rfl, rv, hr⟩ := r
    cases hr
    split at P
    · have r0 := rv
      obtain ⟨a, vs, rfl, q, rs⟩ := tup_H R rv
      exact ⟨a, vs, rfl, .inr ⟨q, P _ H ρ G .refl R r0⟩⟩
    · split at P
      · rename_i e0
        obtain ⟨a, vs, rfl, q, rs⟩ := lof_ok R rv e0
        exact ⟨a, vs, rfl, .inl ⟨q, new_tup R rs P⟩⟩
      · exact P.elim
  · exact P.elim
def dList (fl : Bool) : FN := fun ds μ => match ds with
  | [d] => match d with
    | .tup xs => .ok (mkL fl xs μ)
    | d => match lof d μ with
      | some xs => .ok (mkL fl xs μ)
      | none => .no
  | _ => .no
theorem opn_list {fl : Bool} : OpN nm X W (dList fl) (fun xs H Q => ∃ p ys, xs = [.ref p] ∧ (SqL X.K H p ys ∨ SqT X.K H p ys) ∧ ∀ l, H l = none → Q (.ref l) (upd H l (.lst ys))) := by
  intro env μ σ H ρ G Q ds vs R r P
  unfold dList at P
  split at P
  · obtain ⟨v, r0, rfl, rv, hr⟩ := r
    cases hr
    split at P
    · obtain ⟨a, vs, rfl, q, rs⟩ := tup_H R rv
      exact ⟨a, vs, rfl, .inr q, new_L R rs P⟩
    · split at P
      · rename_i e0
        obtain ⟨a, vs, rfl, q, rs⟩ := lof_ok R rv e0
        exact ⟨a, vs, rfl, .inl q, new_L R rs P⟩
      · exact P.elim
  · exact P.elim
/-! all(x), any(x) of a list of truths -/
def bsOf : List D → Option (List Bool)
  | [] => some []
  | .bl b :: r => (bsOf r).map (b :: ·)
  | _ => none
theorem bsOf_ok {t : Ct} {G : Hp} {ρ : List Addr} : ∀ {ds : List D} {vs : List V} {bs : List Bool}, reps t G ρ ds vs → bsOf ds = some bs → vs = bs.map V.bl
  | [], _, bs, h, e => by cases h; cases e; rfl
  | d :: ds, _, bs, ⟨v, r, e1, h1, h2⟩, e => by
    subst e1
    cases d with
    | bl b =>
      simp only [bsOf, Option.map_eq_some_iff] at e
      obtain ⟨bs', e2, rfl⟩ := e
      rw [bsOf_ok h2 e2, show v = .bl b from h1]; rfl
    | _ => cases e
def dBools (f : List Bool → Bool) : FN := fun ds μ => match ds with
  | [d] => match lof d μ with
    | some xs => match bsOf xs with
      | some bs => .ok (.bl (f bs), μ)
      | none => .no
    | none => .no
  | _ => .no
theorem opn_all : OpN nm X W (dBools fun bs => bs.all id) (rAll X.K) := by
  intro env μ σ H ρ G Q ds vs R r P
  unfold dBools at P
  split at P
  · obtain ⟨v, r0, rfl, rv, hr⟩ := r
    cases hr
    split at P
    · rename_i e0
      obtain ⟨a, vs, rfl, q, rs⟩ := lof_ok R rv e0
      split at P
      · rename_i bs e1
        have := bsOf_ok rs e1
        subst this
        exact ⟨a, bs, rfl, q, P _ H ρ G .refl R rfl⟩
      · exact P.elim
    · exact P.elim
  · exact P.elim
theorem opn_any : OpN nm X W (dBools fun bs => bs.any id) (rAny X.K) := by
  intro env μ σ H ρ G Q ds vs R r P
  unfold dBools at P
  split at P
  · obtain ⟨v, r0, rfl, rv, hr⟩ := r
    cases hr
    split at P
    · rename_i e0
      obtain ⟨a, vs, rfl, q, rs⟩ := lof_ok R rv e0
      split at P
      · rename_i bs e1
        have := bsOf_ok rs e1
        subst this
        exact ⟨a, bs, rfl, q, P _ H ρ G .refl R rfl⟩
      · exact P.elim
    · exact P.elim
  · exact P.elim
/-! int(x), min(x, y), max(x, y), sum(x) -/
def dInt : FN := fun ds μ => match ds with
  | [.int i] => .ok (.int i, μ)
  | [.bl k] => .ok (.int (if k then 1 else 0), μ)
  | _ => .no
theorem opn_int : OpN nm X W dInt (fun xs H Q => (∃ i, xs = [.int i] ∧ Q (.int i) H) ∨ ∃ k, xs = [.bl k] ∧ Q (.int (if k then 1 else 0)) H) := by
  intro env μ σ H ρ G Q ds vs R r P
  unfold dInt at P
  split at P
  · obtain ⟨v, r0, rfl, rv, hr⟩ := r
    cases hr; cases rv
    exact .inl ⟨_, rfl, P _ H ρ G .refl R rfl⟩
  · obtain ⟨v, r0, rfl, rv, hr⟩ := r
    cases hr; cases rv
    exact .inr ⟨_, rfl, P _ H ρ G .refl R rfl⟩
  · exact P.elim
def dMax2 : FN := fun ds μ => match ds with
  | [.int i, .int j] => .ok (.int (max i j), μ)
  | _ => .no
def dMin2 : FN := fun ds μ => match ds with
  | [.int i, .int j] => .ok (.int (min i j), μ)
  | _ => .no
theorem opn_max2 : OpN nm X W dMax2 (fun xs H Q => ∃ i j, xs = [.int i, .int j] ∧ Q (.int (if j > i then j else i)) H) := by
  intro env μ σ H ρ G Q ds vs R r P
  unfold dMax2 at P
  split at P
  · obtain ⟨v, r0, rfl, rv, w, r1, rfl, rw', hr⟩ := r
    cases hr; cases rv; cases rw'
    refine ⟨_, _, rfl, ?_⟩
    rename_i i j
    have e : (if j > i then j else i) = max i j := by split <;> omega
    rw [e]
    exact P _ H ρ G .refl R rfl
  · exact P.elim
theorem opn_min2 : OpN nm X W dMin2 (fun xs H Q => ∃ i j, xs = [.int i, .int j] ∧ Q (.int (if j < i then j else i)) H) := by
  intro env μ σ H ρ G Q ds vs R r P
  unfold dMin2 at P
  split at P
  · obtain ⟨v, r0, rfl, rv, w, r1, rfl, rw', hr⟩ := r
    cases hr; cases rv; cases rw'
    refine ⟨_, _, rfl, ?_⟩
    rename_i i j
    have e : (if j < i then j else i) = min i j := by split <;> omega
    rw [e]
    exact P _ H ρ G .refl R rfl
  · exact P.elim
def dSum : FN := fun ds μ => match ds with
  | [d] => match lof d μ with
    | some xs => match intsOf xs with
      | some ns => .ok (.int ns.sum, μ)
      | none => .no
    | none => .no
  | _ => .no
theorem opn_sum : OpN nm X W dSum (rSum X.K) := by
  intro env μ σ H ρ G Q ds vs R r P
  unfold dSum at P
  split at P
  · obtain ⟨v, r0, rfl, rv, hr⟩ := r
    cases hr
    split at P
    · rename_i e0
      obtain ⟨a, vs, rfl, q, rs⟩ := lof_ok R rv e0
      split at P
      · rename_i ns e1
        obtain ⟨e2, _⟩ := intsOf_reps rs e1
        subst e2
        exact ⟨a, ns, rfl, q, P _ H ρ G .refl R rfl⟩
      · exact P.elim
    · exact P.elim
  · exact P.elim

/-! ### methods of built-in types -/
def isT (T : String) (d : D) (μ : Mu) : Bool := match d with
  | .str _ => T == "str"
  | d => if (lof d μ).isSome then T == "list" else if (dof d μ).isSome then T == "dict" else false
abbrev FM := D → List D → Mu → Res (D × Mu)
def cM (T : String) (f : FM) (a : M) (ms : MA) : M := fun env μ => (a env μ).bind fun x => if isT T x.1 x.2 then (ms env x.2).bind fun y => f x.1 y.1 y.2 else .no
def OpM (nm : Nm) (X : Cx) (W : XW) (f : FM) (r : V → List V → Hp → VK → Prop) : Prop := ∀ env μ σ H ρ G Q d ds v vs, Rel (ct nm X) G ρ env μ σ H → rep (ct nm X) G ρ d v → reps (ct nm X) G ρ ds vs →
  Po (f d ds μ) (KE (ct nm X) env σ G ρ H Q) (KX (ct nm X) W env σ G ρ H) → r v vs H Q
theorem isT_ok {env μ σ H ρ G} (R : Rel (ct nm X) G ρ env μ σ H) {T : String} {d : D} {v : V} (r : rep (ct nm X) G ρ d v) (h : isT T d μ = true) : tyV X.K T v H := by
  unfold isT at h
  split at h
  · obtain ⟨rfl, _⟩ := r
    exact beq_iff_eq.mp h
  · split at h
    · rename_i h2
      obtain ⟨ds, h2⟩ := Option.isSome_iff_exists.mp h2
      obtain ⟨a, vs, rfl, q, _⟩ := lof_ok R r h2
      exact .inl ⟨beq_iff_eq.mp h, vs, q⟩
    · split at h
      · rename_i h2
        obtain ⟨dd, h2⟩ := Option.isSome_iff_exists.mp h2
        obtain ⟨a, rfl, ⟨_, ks, e1, h3, rk⟩ | ⟨_, ks, e1, h3, rk⟩⟩ := dof_ok R r h2
        · exact .inr (.inr (.inl ⟨beq_iff_eq.mp h, .inl ⟨ks, h3⟩⟩))
        · exact .inr (.inr (.inl ⟨beq_iff_eq.mp h, .inr ⟨ks, h3⟩⟩))
      · cases h
variable {name : Str} {T id : String} {r : V → List V → Hp → VK → Prop} {fm : FM}
theorem ev_bm (pa : PlainAttrs T) (slot : Slot T name id) (hty : typeOf (.builtin id) = pure (.type "method_descriptor")) (hm : MtR X id r) (hf : OpM nm X W fm r) (ho : EV nm X W o ma) (ha : AV nm X W (e :: es) ms)
    (hbase : attributeBase o name X.env (eval o X.env) = eval o X.env := by rfl)
    (hfew : ((backTo pos (starEach (e :: es) X.env)).all (fun x => !x.1) && (backToKw pos (keywordEach [] X.env)).all (fun x => x.1.isSome)
      && decide ((e :: es).length + ([] : List Keyword).length + (if ([] : List Keyword).isEmpty then 0 else 1) < 30)) = true := by rfl)
    (hline : (apos.endLine == pos.line) = true := by rfl) (hs : starEach (e :: es) X.env = (false, eval e X.env) :: starEach es X.env := by rfl) (hplain : (backTo pos (starEach es X.env)).any (·.1) = false := by rfl) :
    EV nm X W (.Call (.Attribute o name apos) (e :: es) [] pos) (cM T fm ma ms) := ev_of (pe_bm pa slot hty hm pe_wp pa_wp hbase hfew hline hs hplain) fun env μ σ H ρ G Q R P => by
  refine ho.run env μ σ H ρ G _ R ((Po.bind P).imp (fun x hx v H1 ρ1 G1 e1 R1 r1 => ?_) fun _ _ _ h => h)
  split at hx
  · rename_i ht
    refine ⟨isT_ok R1 r1 ht, ?_⟩
    refine ha.run env x.2 σ H1 ρ1 G1 _ R1 ((Po.bind (Po.reE e1 hx)).imp (fun y hy vs H2 ρ2 G2 e2 R2 r2 => ?_) fun _ _ _ h => h)
    exact hf env y.2 σ H2 ρ2 G2 Q x.1 y.1 v vs R2 (e2.rep r1) r2 (Po.reE e2 hy)
  · exact hx.elim
theorem ev_bm0 (pa : PlainAttrs T) (slot : Slot T name id) (hty : typeOf (.builtin id) = pure (.type "method_descriptor")) (hm : MtR X id r) (hf : OpM nm X W fm r) (ho : EV nm X W o ma)
    (hbase : attributeBase o name X.env (eval o X.env) = eval o X.env := by rfl) (hline : (apos.endLine == pos.line) = true := by rfl) : EV nm X W (.Call (.Attribute o name apos) [] [] pos) (cM T fm ma cNil) := ev_of (pe_bm0 pa slot hty hm pe_wp hbase hline) fun env μ σ H ρ G Q R P => by
  refine ho.run env μ σ H ρ G _ R ((Po.bind P).imp (fun x hx v H1 ρ1 G1 e1 R1 r1 => ?_) fun _ _ _ h => h)
  split at hx
  · rename_i ht
    exact ⟨isT_ok R1 r1 ht, hf env x.2 σ H1 ρ1 G1 Q x.1 [] v [] R1 r1 rfl (Po.reE e1 hx)⟩
  · exact hx.elim
/-! lists -/
def lst1 (d : D) (μ : Mu) (f : Nat → List D → Res (D × Mu)) : Res (D × Mu) := match d with
  | .ref n => match μ[n]? with
    | some (.lst xs) => f n xs
    | _ => .no
  | _ => .no
def mAppend : FM := fun d ds μ => lst1 d μ fun n xs => match ds with
  | [y] => if xs.length < lineN then .ok (.non, μ.set n (.lst (xs ++ [y]))) else .no
  | _ => .no
theorem opm_append : OpM nm X W mAppend rAppend := by
  intro env μ σ H ρ G Q d ds v vs R rv r P
  unfold mAppend lst1 at P
  split at P
  · split at P
    · rename_i n _ xs q
      obtain ⟨a, ws, rfl, ea, h, rs⟩ := cell_lst R rv q
      split at P
      · obtain ⟨w, r0, rfl, rw', hr⟩ := r
        cases hr
        dsimp only at P
        split at P
        · rename_i hz
          obtain ⟨R2, e2⟩ := R.setCell (o := .lst (ws ++ [w])) (d := .lst (xs ++ [_])) ea ⟨_, upd_same, rs.app (reps.one rw')⟩
          exact ⟨a, ws, w, rfl, rfl, h, by rw [rs.length, lineN_eq]; exact hz, P .non _ ρ G e2 R2 rfl⟩
        · exact P.elim
      · exact P.elim
    · exact P.elim
  · exact P.elim
def mExtend : FM := fun d ds μ => lst1 d μ fun n xs => match ds with
  | [y] => match lofT y μ with
    | some ys => if xs.length + ys.length ≤ lineN then .ok (.non, μ.set n (.lst (xs ++ ys))) else .no
    | none => .no
  | _ => .no
theorem opm_extend : OpM nm X W mExtend rExtend := by
  intro env μ σ H ρ G Q d ds v vs R rv r P
  unfold mExtend lst1 at P
  split at P
  · split at P
    · rename_i n _ xs q
      obtain ⟨a, ws, rfl, ea, h, rs⟩ := cell_lst R rv q
      split at P
      · obtain ⟨w, r0, rfl, rw', hr⟩ := r
        cases hr
        split at P
        · rename_i ys e1
          obtain ⟨b, zs, rfl, h1, q1⟩ := lofT_ok R rw' e1
          dsimp only at P
          split at P
          · rename_i hz
            obtain ⟨R2, e2⟩ := R.setCell (o := .lst (ws ++ zs)) (d := .lst (xs ++ ys)) ea ⟨_, upd_same, rs.app q1⟩
            exact ⟨a, b, ws, zs, rfl, rfl, h, h1, by rw [rs.length, q1.length, lineN_eq]; exact hz, P .non _ ρ G e2 R2 rfl⟩
          · exact P.elim
        · exact P.elim
      · exact P.elim
    · exact P.elim
  · exact P.elim
/-! texts -/
def joinL (sep : List Nat) : List (List Nat) → List Nat
  | [] => []
  | [x] => x
  | x :: r => x ++ sep ++ joinL sep r
def strsOf : List D → Option (List (List Nat))
  | [] => some []
  | .str z :: r => (strsOf r).map (z :: ·)
  | _ => none
theorem strsOf_ok {t : Ct} {G : Hp} {ρ : List Addr} : ∀ {ds : List D} {vs : List V} {xs : List (List Nat)}, reps t G ρ ds vs → strsOf ds = some xs → vs = (xs.map S).map V.str ∧ ∀ x ∈ xs, okS x = true
  | [], _, bs, h, e => by cases h; cases e; exact ⟨rfl, fun _ h => by simp at h⟩
  | d :: ds, _, bs, ⟨v, r, e1, h1, h2⟩, e => by
    subst e1
    cases d with
    | str b =>
      simp only [strsOf, Option.map_eq_some_iff] at e
      obtain ⟨bs', e2, rfl⟩ := e
      obtain ⟨rfl, o⟩ := h1
      obtain ⟨e3, e4⟩ := strsOf_ok h2 e2
      rw [e3]
      refine ⟨rfl, fun x hx => ?_⟩
      rcases List.mem_cons.mp hx with h | h
      · rw [h]; exact o
      · exact e4 x h
    | _ => cases e
theorem join_S (sep : List Nat) : ∀ xs : List (List Nat), Txt.join (S sep) (xs.map S) = S (joinL sep xs) := by
  intro xs
  show PySem.Builtin.Str.glued (S sep) (xs.map S) = _
  rw [PySem.StrLaws.glued_eq_join]
  induction xs with
  | nil => rfl
  | cons x r ih =>
    cases r with
    | nil => rfl
    | cons y r =>
      show S x ++ S sep ++ Str.join (S sep) ((y :: r).map S) = _
      rw [ih, S_app, S_app]; rfl
theorem joinL_len (sep : List Nat) : ∀ xs : List (List Nat), (joinL sep xs).length ≤ (xs.map List.length).sum + xs.length * sep.length := by
  intro xs
  induction xs with
  | nil => simp [joinL]
  | cons x r ih =>
    cases r with
    | nil => simp [joinL]
    | cons y r =>
      simp only [joinL, List.length_append, List.map_cons, List.sum_cons, List.length_cons] at ih ⊢
      rw [Nat.add_mul, Nat.one_mul]
      omega
theorem joinL_mem (sep : List Nat) : ∀ {xs : List (List Nat)} {c : Nat}, c ∈ joinL sep xs → c ∈ sep ∨ ∃ x ∈ xs, c ∈ x := by
  intro xs
  induction xs with
  | nil => intro c h; simp [joinL] at h
  | cons x r ih =>
    intro c h
    cases r with
    | nil => exact .inr ⟨x, by simp, h⟩
    | cons y r =>
      simp only [joinL, List.mem_append] at h
      rcases h with (h | h) | h
      · exact .inr ⟨x, by simp, h⟩
      · exact .inl h
      · rcases ih h with h | ⟨z, h1, h2⟩
        · exact .inl h
        · exact .inr ⟨z, List.mem_cons_of_mem _ h1, h2⟩
def seqD (d : D) (μ : Mu) : Option (List D) := match d with
  | .tup ds => some ds
  | d => lof d μ
def mJoin : FM := fun d ds μ => match d, ds with
  | .str sep, [y] => match seqD y μ with
    | some ys => match strsOf ys with
      | some xs => if (xs.map List.length).sum + xs.length * sep.length ≤ lineN then .ok (.str (joinL sep xs), μ) else .no
      | none => .no
    | none => .no
  | _, _ => .no
theorem opm_join : OpM nm X W mJoin (fun x xs H Q => ∃ a p, ∃ ys : List Str, x = .str a ∧ xs = [.ref p] ∧ (SqL X.K H p (ys.map V.str) ∨ SqT X.K H p (ys.map V.str)) ∧ (ys.map (·.length)).sum + ys.length * a.length ≤ 16777216 ∧ Q (.str (Txt.join a ys)) H) := by
  intro env μ σ H ρ G Q d ds v vs R rv r P
  unfold mJoin at P
  split at P
  · obtain ⟨rfl, o⟩ := rv
    rename_i sep y
    obtain ⟨w, r0, rfl, rw', hr⟩ := r
    cases hr
    split at P
    · rename_i ys e1
      split at P
      · rename_i xs e2
        split at P
        · rename_i hz
          have hl : (List.map (·.length) (xs.map S)).sum = (xs.map List.length).sum := by
            rw [List.map_map]
            refine congrArg List.sum (List.map_congr_left fun x _ => ?_)
            show (S x).length = _
            rw [S_len]
          have go : (∀ x ∈ xs, okS x = true) → Q (.str (Txt.join (S sep) (xs.map S))) H := fun ok => by
            rw [join_S]
            refine P _ H ρ G .refl R ⟨rfl, okS_mk (Nat.le_trans (joinL_len sep xs) hz) fun c hc => ?_⟩
            rcases joinL_mem sep hc with h | ⟨x, h1, h2⟩
            · exact okS_mem o h
            · exact okS_mem (ok x h1) h2
          have hsum : (List.map (·.length) (xs.map S)).sum + (xs.map S).length * (S sep).length ≤ 16777216 := by
            rw [hl, List.length_map, S_len]; exact hz
          unfold seqD at e1
          split at e1
          · cases e1
            obtain ⟨a, vs, rfl, q, rs⟩ := tup_H R rw'
            obtain ⟨e3, e4⟩ := strsOf_ok rs e2
            subst e3
            exact ⟨S sep, a, xs.map S, rfl, rfl, .inr q, hsum, go e4⟩
          · obtain ⟨a, vs, rfl, q, rs⟩ := lof_ok R rw' e1
            obtain ⟨e3, e4⟩ := strsOf_ok rs e2
            subst e3
            exact ⟨S sep, a, xs.map S, rfl, rfl, .inl q, hsum, go e4⟩
        · exact P.elim
      · exact P.elim
    · exact P.elim
  · exact P.elim
def upC (c : Nat) : Nat := PyProof.Rows.up1 c
def loC (c : Nat) : Nat := PyProof.Rows.lo1 c
def mUpper : FM := fun d ds μ => match d, ds with
  | .str z, [] => if z.length ≤ 5592405 ∧ (z.all fun c => decide (c < 128)) = true then .ok (.str (z.map upC), μ) else .no
  | _, _ => .no
def mLower : FM := fun d ds μ => match d, ds with
  | .str z, [] => if z.length ≤ 5592405 ∧ (z.all fun c => decide (c < 128)) = true then .ok (.str (z.map loC), μ) else .no
  | _, _ => .no
theorem S_SX (z : List Nat) : S z = SX.S z := rfl
theorem opm_upper : OpM nm X W mUpper (fun x xs H Q => ∃ a, x = .str a ∧ xs = [] ∧ a.length ≤ 5592405 ∧ Q (.str (Txt.upper a)) H) := by
  intro env μ σ H ρ G Q d ds v vs R rv r P
  unfold mUpper at P
  split at P
  · obtain ⟨rfl, o⟩ := rv
    cases r
    split at P
    · rename_i z hz
      refine ⟨S z, rfl, rfl, by rw [S_len]; exact hz.1, ?_⟩
      rw [S_SX, SX.upper_S hz.2]
      refine P _ H ρ G .refl R ⟨rfl, okS_mk (by rw [List.length_map]; exact okS_len o) fun c hc => ?_⟩
      obtain ⟨c', h1, rfl⟩ := List.mem_map.mp hc
      have := of_decide_eq_true (List.all_eq_true.mp hz.2 c' h1)
      unfold upC PyProof.Rows.up1
      split <;> omega
    · exact P.elim
  · exact P.elim
theorem opm_lower : OpM nm X W mLower (fun x xs H Q => ∃ a, x = .str a ∧ xs = [] ∧ a.length ≤ 5592405 ∧ Q (.str (Txt.lower a)) H) := by
  intro env μ σ H ρ G Q d ds v vs R rv r P
  unfold mLower at P
  split at P
  · obtain ⟨rfl, o⟩ := rv
    cases r
    split at P
    · rename_i z hz
      refine ⟨S z, rfl, rfl, by rw [S_len]; exact hz.1, ?_⟩
      rw [S_SX, SX.lower_S hz.2]
      refine P _ H ρ G .refl R ⟨rfl, okS_mk (by rw [List.length_map]; exact okS_len o) fun c hc => ?_⟩
      obtain ⟨c', h1, rfl⟩ := List.mem_map.mp hc
      have := of_decide_eq_true (List.all_eq_true.mp hz.2 c' h1)
      unfold loC PyProof.Rows.lo1
      split <;> omega
    · exact P.elim
  · exact P.elim
end
end Lr

/-! Lr, part 13: defs, methods and classes of a text, bundled; the end. -/
namespace Lr
open PySem L2
open PyProof.Rows (envOfC)
theorem room_u {k : Nat} {A : Around} (r : Room k A) : A.units + 65 < cLine := by have := r.un; omega
theorem room_u4 {k : Nat} {A : Around} (r : Room k A) : A.units + 64 < cLine := r.units
def sNo : SM := fun _ _ => none
theorem sv_no {nm : Nm} {X : Cx} {W : XW} {st : Stmt} : SV nm X W st sNo := ⟨fun env μ σ H ρ G D R P => P.elim⟩

def DefSrc (K : PySem.W.Frag) (mg : Str → Option Value) (x : Str) (st : Stmt) : Prop := ∃ f fd, Fun K x x st f fd ∧ mg x = some (.ref f)
def MethSrc (K : PySem.W.Frag) (C : Addr) (m qual : Str) (st : Stmt) : Prop := ∃ f fd, Fun K m qual st f fd ∧ Meth K C m f
def InitSrc (K : PySem.W.Frag) (C : Addr) (qual : Str) (st : Stmt) : Prop := ∃ f fd, Fun K "__init__" qual st f fd ∧ Mk K C f
def DefOk (P : Program) (w : World) (K : PySem.W.Frag) (mg : Str → Option Value) (base : Heap) (nm : Nm) (x : Str) (k n : Nat) (F : GF) : Prop :=
  ∃ f fd ps, FnOk P w K mg base CX0 k f fd ps (spG0 ⟨K, mg, nm⟩ n F) ∧ mg x = some (.ref f) ∧ PySem.W.keepIn K (.ref f) = true ∧ Binds K fd ps []
def MethOk (P : Program) (w : World) (K : PySem.W.Frag) (mg : Str → Option Value) (base : Heap) (nm : Nm) (C : Addr) (m : Str) (k n : Nat) (F : GF) : Prop :=
  ∃ f fd ps, FnOk P w K mg base CX0 k f fd ps (spG0 ⟨K, mg, nm⟩ n F) ∧ Meth K C m f ∧ Binds K fd ps []
def InitOk (P : Program) (w : World) (K : PySem.W.Frag) (mg : Str → Option Value) (base : Heap) (nm : Nm) (C : Addr) (k n : Nat) (F : GF) : Prop :=
  ∃ f fd ps, FnOk P w K mg base CX0 k f fd ps (spG0 ⟨K, mg, nm⟩ n F) ∧ Mk K C f ∧ Binds K fd ps []
section
variable {P : Program} {w : World} {K : PySem.W.Frag} {mg : Str → Option Value} {base h : Heap} {nm : Nm} {x m qual : Str} {st : Stmt} {N ps : List Str} {k : Nat} {sm : SM} {C f : Addr}
theorem defSrc_mk (X : K.In h) (G : h.Ns mainGlobals mg) (a : PySem.W.nsIn K mainGlobals x = some (some (.ref f))) {oc : Value} {od an : Option Addr} {osl : Array (Option Value)} {kV doc pm cdv ct : Value}
    (l : K.lookup f = some ⟨oc, od, .func (PySem.W.fnOf x x (defArgs st) (defBody st) (defScope st) .none kV doc pm an cdv ct), osl⟩)
    (c : PySem.W.codeIn K cdv x = true) (k : PySem.W.keepIn K (.ref f) = true) : DefSrc K mg x st := ⟨f, _, fun_mk l c k, PySem.W.mg_of X G a⟩
theorem methSrc_mk (a : PySem.W.findIn K (.ref C) m = some (some (.ref f))) (i : PySem.W.isFn K (.ref f) = true) {oc : Value} {od an : Option Addr} {osl : Array (Option Value)} {kV doc pm cdv ct : Value}
    (l : K.lookup f = some ⟨oc, od, .func (PySem.W.fnOf m qual (defArgs st) (defBody st) (defScope st) .none kV doc pm an cdv ct), osl⟩)
    (c : PySem.W.codeIn K cdv qual = true) (k : PySem.W.keepIn K (.ref f) = true) : MethSrc K C m qual st := ⟨f, _, fun_mk l c k, a, i, k⟩
theorem initSrc_mk (a : PySem.W.findIn K (.ref C) "__init__" = some (some (.ref f))) (i : PySem.W.isFn K (.ref f) = true) {oc : Value} {od an : Option Addr} {osl : Array (Option Value)} {kV doc pm cdv ct : Value}
    (l : K.lookup f = some ⟨oc, od, .func (PySem.W.fnOf "__init__" qual (defArgs st) (defBody st) (defScope st) .none kV doc pm an cdv ct), osl⟩)
    (c : PySem.W.codeIn K cdv qual = true) (k : PySem.W.keepIn K (.ref f) = true) (mk : PySem.W.makesIn K C = true) (kc : PySem.W.keepIn K (.ref C) = true) : InitSrc K C qual st := ⟨f, _, fun_mk l c k, mk, a, i, kc⟩
abbrev Bi (st : Stmt) (x qual : Str) (ps : List Str) : Prop := ∀ (kV doc pm : Value) (an : Option Addr) (cdv ct : Value) (us : List Value), us.length = ps.length → bindArgs (PySem.W.fnOf x qual (defArgs st) (defBody st) (defScope st) .none kV doc pm an cdv ct) ⟨us, []⟩ = pure (ps.zip us)
abbrev Bd (P : Program) (w : World) (K : PySem.W.Frag) (mg : Str → Option Value) (base : Heap) (nm : Nm) (N : List Str) (qual : Str) (st : Stmt) (k : Nat) (sm : SM) : Prop :=
  ∀ (f : Addr) (cdv : Value) (A : Around) (outer : List Env) (s : Shared) (H : Hp) (E : XK), Room k (A.deeper (envOfC qual (defScope st) s.heap.objs.size f cdv)) →
      BV nm (cxOf CX0 P w K mg base N qual (defScope st) f cdv A outer s H E).nox (fun _ _ _ _ => False) (defBody st) sm
theorem def_ok (S : DefSrc K mg x st) (sc : FnScope N ps (defScope st)) (hl : ps.length ≤ N.length) (bi : Bi st x x ps) (hb : Bd P w K mg base nm N x st k sm) : DefOk P w K mg base nm x (k + 1) ps.length (bodyF N.length sm) := by
  obtain ⟨f, fd, F, hm⟩ := S
  exact ⟨f, fd, ps, fn_gen0 F sc hl (hb f), hm, F.kp, F.binds bi⟩
theorem meth_ok (S : MethSrc K C m qual st) (sc : FnScope N ps (defScope st)) (hl : ps.length ≤ N.length) (bi : Bi st m qual ps) (hb : Bd P w K mg base nm N qual st k sm) : MethOk P w K mg base nm C m (k + 1) ps.length (bodyF N.length sm) := by
  obtain ⟨f, fd, F, hm⟩ := S
  exact ⟨f, fd, ps, fn_gen0 F sc hl (hb f), hm, F.binds bi⟩
theorem init_ok (S : InitSrc K C qual st) (sc : FnScope N ps (defScope st)) (hl : ps.length ≤ N.length) (bi : Bi st "__init__" qual ps) (hb : Bd P w K mg base nm N qual st k sm) : InitOk P w K mg base nm C (k + 1) ps.length (bodyF N.length sm) := by
  obtain ⟨f, fd, F, hm⟩ := S
  exact ⟨f, fd, ps, fn_gen0 F sc hl (hb f), hm, F.binds bi⟩
end
section
variable {nm : Nm} {X : Cx} {W : XW} {e o : Expr} {es : List Expr} {pos p apos : Pos} {ms : MA} {ma : M} {k j n c : Nat} {C : Addr} {F : GF} {x m : Str}
theorem ev_callF (D : DefOk X.prog X.w X.K X.mg X.base nm x k n F) (hr : Room j X.A) (ha : AV nm X W (e :: es) ms) (hj : k ≤ j := by decide) (hn : es.length + 1 = n := by rfl)
    (hg : Gl X x := by rfl) (hdb : (x == ("__debug__" : Str)) = false := by decide) (he : starEach (e :: es) X.env = (false, eval e X.env) :: starEach es X.env := by rfl) (hpl : (backTo pos (starEach es X.env)).any (·.1) = false := by rfl) :
    EV nm X W (.Call (.Name x p) (e :: es) [] pos) (cF (pureC F) ms) := by
  obtain ⟨f, fd, ps, Fk, hm, hk, hb⟩ := D
  exact ev_call Fk callOk_pure (hr.mono hj) hm hk hb ha hn hg hdb he hpl
theorem ev_callP (D : DefOk X.prog X.w X.K X.mg X.base nm x k n F) (hr : Room j X.A) (ha : AV nm X W (e :: es) ms) (hj : k ≤ j := by decide) (hn : es.length + 1 = n := by rfl)
    (hg : Gl X x := by rfl) (hdb : (x == ("__debug__" : Str)) = false := by decide) (he : starEach (e :: es) X.env = (false, eval e X.env) :: starEach es X.env := by rfl) (hpl : (backTo pos (starEach es X.env)).any (·.1) = false := by rfl) :
    EV nm X W (.Call (.Name x p) (e :: es) [] pos) (cF (pureP F) ms) := by
  obtain ⟨f, fd, ps, Fk, hm, hk, hb⟩ := D
  exact ev_call Fk callOk_new (hr.mono hj) hm hk hb ha hn hg hdb he hpl
theorem ev_callS (D : DefOk X.prog X.w X.K X.mg X.base nm x k n F) (hr : Room j X.A) (ha : AV nm X W (e :: es) ms) (hj : k ≤ j := by decide) (hn : es.length + 1 = n := by rfl)
    (hg : Gl X x := by rfl) (hdb : (x == ("__debug__" : Str)) = false := by decide) (he : starEach (e :: es) X.env = (false, eval e X.env) :: starEach es X.env := by rfl) (hpl : (backTo pos (starEach es X.env)).any (·.1) = false := by rfl) :
    EV nm X W (.Call (.Name x p) (e :: es) [] pos) (cF (liveC F) ms) := by
  obtain ⟨f, fd, ps, Fk, hm, hk, hb⟩ := D
  exact ev_call Fk callOk_live (hr.mono hj) hm hk hb ha hn hg hdb he hpl
theorem ev_methF {pl : Sem Bool} (T : ClsT nm X.K X.mg c C) (D : MethOk X.prog X.w X.K X.mg X.base nm C m k n F) (hr : Room j X.A)
    (ho : EV nm X W o ma) (ha : AV nm X W (e :: es) ms) (hj : k ≤ j := by decide) (hmm : m ∉ nm.cf c := by decide) (hn : es.length + 2 = n := by rfl) (hst : starEach (e :: es) X.env = (false, eval e X.env) :: starEach es X.env := by rfl) (hpl : (backTo pos (starEach es X.env)).any (·.1) = false := by rfl)
    (ht : eval (.Call (.Attribute o m apos) (e :: es) [] pos) X.env = (do
      let ov ← eval o X.env
      standAt apos.atName
      let (f, first) ← holding [ov] (getMethod ov m pl)
      callWith pos f first (backTo pos (starEach (e :: es) X.env)) (backToKw pos (keywordEach [] X.env))) := by rfl) :
    EV nm X W (.Call (.Attribute o m apos) (e :: es) [] pos) (cMt c (pureC F) ma ms) := by
  obtain ⟨f, fd, ps, Fk, hm, hb⟩ := D
  exact ev_meth T hm Fk callOk_pure (hr.mono hj) hb ho ha hmm hn hst hpl ht
theorem ev_methS {pl : Sem Bool} (T : ClsT nm X.K X.mg c C) (D : MethOk X.prog X.w X.K X.mg X.base nm C m k n F) (hr : Room j X.A)
    (ho : EV nm X W o ma) (ha : AV nm X W (e :: es) ms) (hj : k ≤ j := by decide) (hmm : m ∉ nm.cf c := by decide) (hn : es.length + 2 = n := by rfl) (hst : starEach (e :: es) X.env = (false, eval e X.env) :: starEach es X.env := by rfl) (hpl : (backTo pos (starEach es X.env)).any (·.1) = false := by rfl)
    (ht : eval (.Call (.Attribute o m apos) (e :: es) [] pos) X.env = (do
      let ov ← eval o X.env
      standAt apos.atName
      let (f, first) ← holding [ov] (getMethod ov m pl)
      callWith pos f first (backTo pos (starEach (e :: es) X.env)) (backToKw pos (keywordEach [] X.env))) := by rfl) :
    EV nm X W (.Call (.Attribute o m apos) (e :: es) [] pos) (cMt c (liveC F) ma ms) := by
  obtain ⟨f, fd, ps, Fk, hm, hb⟩ := D
  exact ev_meth T hm Fk callOk_live (hr.mono hj) hb ho ha hmm hn hst hpl ht
theorem ev_methF0 {pl : Sem Bool} (T : ClsT nm X.K X.mg c C) (D : MethOk X.prog X.w X.K X.mg X.base nm C m k 1 F) (hr : Room j X.A) (ho : EV nm X W o ma) (hj : k ≤ j := by decide) (hmm : m ∉ nm.cf c := by decide)
    (ht : eval (.Call (.Attribute o m apos) [] [] pos) X.env = (do
      let ov ← eval o X.env
      standAt apos.atName
      let (f, first) ← holding [ov] (getMethod ov m pl)
      callWith pos f first (backTo pos (starEach [] X.env)) (backToKw pos (keywordEach [] X.env))) := by rfl) :
    EV nm X W (.Call (.Attribute o m apos) [] [] pos) (cMt c (pureC F) ma cNil) := by
  obtain ⟨f, fd, ps, Fk, hm, hb⟩ := D
  exact ev_meth0 T hm Fk callOk_pure (hr.mono hj) hb ho hmm ht
theorem ev_methS0 {pl : Sem Bool} (T : ClsT nm X.K X.mg c C) (D : MethOk X.prog X.w X.K X.mg X.base nm C m k 1 F) (hr : Room j X.A) (ho : EV nm X W o ma) (hj : k ≤ j := by decide) (hmm : m ∉ nm.cf c := by decide)
    (ht : eval (.Call (.Attribute o m apos) [] [] pos) X.env = (do
      let ov ← eval o X.env
      standAt apos.atName
      let (f, first) ← holding [ov] (getMethod ov m pl)
      callWith pos f first (backTo pos (starEach [] X.env)) (backToKw pos (keywordEach [] X.env))) := by rfl) :
    EV nm X W (.Call (.Attribute o m apos) [] [] pos) (cMt c (liveC F) ma cNil) := by
  obtain ⟨f, fd, ps, Fk, hm, hb⟩ := D
  exact ev_meth0 T hm Fk callOk_live (hr.mono hj) hb ho hmm ht
theorem ev_makeF (T : ClsT nm X.K X.mg c C) (D : InitOk X.prog X.w X.K X.mg X.base nm C k (n + 1) F) (hr : Room j X.A) (ha : AV nm X W (e :: es) ms) (hj : k + 1 ≤ j := by decide) (hn : es.length + 1 = n := by rfl) (hx : nm.cn c = x := by rfl)
    (hg : Gl X x := by rfl) (hdb : (x == ("__debug__" : Str)) = false := by decide) (he : starEach (e :: es) X.env = (false, eval e X.env) :: starEach es X.env := by rfl) (hpl : (backTo pos (starEach es X.env)).any (·.1) = false := by rfl) :
    EV nm X W (.Call (.Name x p) (e :: es) [] pos) (cF (makeF c F) ms) := by
  obtain ⟨f, fd, ps, Fk, M, hb⟩ := D
  exact ev_make M Fk (makeOk_F T) (hr.mono hj) (by rw [← hx]; exact T.at_) hb ha hn hg hdb he hpl
theorem ev_makeL (T : ClsT nm X.K X.mg c C) (D : InitOk X.prog X.w X.K X.mg X.base nm C k (n + 1) F) (hr : Room j X.A) (ha : AV nm X W (e :: es) ms) (hj : k + 1 ≤ j := by decide) (hn : es.length + 1 = n := by rfl) (hx : nm.cn c = x := by rfl)
    (hg : Gl X x := by rfl) (hdb : (x == ("__debug__" : Str)) = false := by decide) (he : starEach (e :: es) X.env = (false, eval e X.env) :: starEach es X.env := by rfl) (hpl : (backTo pos (starEach es X.env)).any (·.1) = false := by rfl) :
    EV nm X W (.Call (.Name x p) (e :: es) [] pos) (cF (makeL c F) ms) := by
  obtain ⟨f, fd, ps, Fk, M, hb⟩ := D
  exact ev_make M Fk (makeOk_L T) (hr.mono hj) (by rw [← hx]; exact T.at_) hb ha hn hg hdb he hpl
end

/-! ### the end -/
/-- the law holds, as its meaning tells -/
def LawTrue (F : GF) : Prop := ∀ ns : List Int, ns.length ≤ 63 → ∃ μ, F [.scr (ns.map .int)] [] = .ok (.bl true, μ)
theorem reps_of_ints {t : Ct} {G : Hp} {ρ : List Addr} : ∀ ns : List Int, reps t G ρ (ns.map D.int) (ns.map V.int)
  | [] => rfl
  | n :: ns => ⟨.int n, _, rfl, rfl, reps_of_ints ns⟩
theorem law_sp {K : PySem.W.Frag} {mg : Str → Option Value} {nm : Nm} {F : GF} (h : LawTrue F) {H : Hp} {a : Addr} {ns : List Int} (hl : ns.length ≤ 63) (hS : SqL K H a (ns.map V.int)) : spG0 ⟨K, mg, nm⟩ 1 F [.ref a] H (fun v _ => v = .bl true) fun _ _ _ => False := by
  obtain ⟨μ, e⟩ := h ns hl
  refine ⟨H, [], [], [.scr (ns.map .int)], rfl, Rel.empty (.refl _), ⟨.ref a, [], rfl, ⟨a, _, rfl, hS, reps_of_ints ns⟩, rfl⟩, ?_⟩
  rw [e]
  exact fun v H' ρ' G' x R r => r
theorem law_walk {l : PySem.W.OpenLaw} {k : Nat} {nm : Nm} {F : GF} {q : Program} {loose : List Str} {XP : (Str → Option Value) → Heap → Prop} {YP : World → Heap → Prop} {d : DefRec} {K : Params → PySem.W.Frag} {x : Str} (hn : l.most = some 63) (hdf : d.params.defaults = []) (hk : Room k callerA)
    (hY : ∀ (w : World) (h : Heap), YP w h → (K w.params).In h) (hd : d.name = x) (hL : LawTrue F)
    (hF : ∀ (w : World) (mg : Str → Option Value) (h : Heap), (K w.params).In h → h.Ns mainGlobals mg →
      ∃ (fa : Addr) (fd : FuncData) (y : Str), mg x = some (.ref fa) ∧ (∀ (s : Shared) (u : Value), BindsTo s fd ⟨[u], []⟩ [(y, u)]) ∧ y = "_law_script" ∧
        ∀ base : Heap, (K w.params).In base → base.Ns mainGlobals mg → FnOk l.prog w (K w.params) mg base CX0 k fa fd [y] (spG0 ⟨K w.params, mg, nm⟩ 1 F)) :
    PySem.W.WalkO q loose XP YP l.row.toRowW d [] (fun f vs => PySem.call f vs) := by
  subst hd
  refine L2.walk_of (n := 63) (k := k) (x := "_law_script") (CX := fun _ => CX0) (sp := fun w vs H Q E => ∀ mg, spG0 ⟨K w.params, mg, nm⟩ 1 F vs H Q E) hn (by decide) hdf hk hY (fun w mg fa h KX G hmg => ?_) (fun w H a ns hl _ hS mg => law_sp hL hl hS) fun _ _ _ _ _ z => z
  obtain ⟨fa', fd, y, e1, b, rfl, hF⟩ := hF w mg h KX G
  rw [hmg] at e1; cases e1
  exact ⟨fd, b, fun base h1 h2 => (hF base h1 h2).imp fun vs H Q E h => h mg⟩
end Lr

/-! Lr, part 14: the end of a text. -/
namespace Lr
open PySem L2
open PyProof.Rows (envOfC)
theorem law_end {P : Program} {w : World} {K : PySem.W.Frag} {mg : Str → Option Value} {nm : Nm} {st : Stmt} {N : List Str} {k : Nat} {sm : SM} {x y : Str} (S : DefSrc K mg x st) (sc : FnScope N [y] (defScope st)) (hl : 1 ≤ N.length) (bi : Bi st x x [y])
    (hb : ∀ base : Heap, K.In base → base.Ns mainGlobals mg → Bd P w K mg base nm N x st k sm) (hy : y = "_law_script" := by rfl) : ∃ (fa : Addr) (fd : FuncData) (y : Str), mg x = some (.ref fa) ∧ (∀ (s : Shared) (u : Value), BindsTo s fd ⟨[u], []⟩ [(y, u)]) ∧ y = "_law_script" ∧
      ∀ base : Heap, K.In base → base.Ns mainGlobals mg → FnOk P w K mg base CX0 (k + 1) fa fd [y] (spG0 ⟨K, mg, nm⟩ 1 (bodyF N.length sm)) := by
  obtain ⟨f, fd, F, hm⟩ := S
  have F' := F
  obtain ⟨⟨oc, od, kV, doc, pm, an, cdv, ct, osl, rfl, lk, hcd⟩, kp⟩ := F'
  exact ⟨f, _, y, hm, fun s u => .of_eq (bi kV doc pm an cdv ct [u] rfl), hy, fun base h1 h2 => fn_gen0 F sc hl (hb base h1 h2 f)⟩
section
variable {nm : Nm} {X : Cx} {W : XW} {x : Str} {pos : Pos}
/-- a text of the module -/
theorem ev_globS {z : Str} {t : Tok} (y : List Nat) (hm : X.mg x = some (.str z t)) (hg : Gl X x := by rfl) (h : z.cps.toList = y := by decide +kernel) (ho : okS y = true := by decide +kernel) (hd : (x == ("__debug__" : Str)) = false := by decide) : EV nm X W (.Name x pos) (cK (.str y)) :=
  ev_glob (v := .str z) hg hm ⟨_, rfl⟩ (fun _ _ => ⟨by rw [← h, S_of], ho⟩) hd
theorem ev_globI {i : Int} {t : Tok} (hm : X.mg x = some (.int i t)) (hg : Gl X x := by rfl) (hd : (x == ("__debug__" : Str)) = false := by decide) : EV nm X W (.Name x pos) (cK (.int i)) :=
  ev_glob (v := .int i) hg hm ⟨_, rfl⟩ (fun _ _ => rfl) hd
end
end Lr

/-! Lr, part 15: the meanings evaluated; loops. -/
namespace Lr
open PySem L2

/-! ### the alphabet -/
def lowL : List Nat := (List.range 26).map (· + 97)
def upL : List Nat := (List.range 26).map (· + 65)
def bothL : List Nat := lowL ++ upL
theorem lowL_len : lowL.length = 26 := rfl
theorem upL_len : upL.length = 26 := rfl
theorem bothL_len : bothL.length = 52 := rfl
theorem lowL_mem {c : Nat} : c ∈ lowL ↔ 97 ≤ c ∧ c ≤ 122 := by
  unfold lowL
  rw [List.mem_map]
  simp only [List.mem_range]
  exact ⟨fun ⟨a, h, e⟩ => by omega, fun h => ⟨c - 97, by omega, by omega⟩⟩
theorem upL_mem {c : Nat} : c ∈ upL ↔ 65 ≤ c ∧ c ≤ 90 := by
  unfold upL
  rw [List.mem_map]
  simp only [List.mem_range]
  exact ⟨fun ⟨a, h, e⟩ => by omega, fun h => ⟨c - 65, by omega, by omega⟩⟩
theorem bothL_mem {c : Nat} : c ∈ bothL ↔ (97 ≤ c ∧ c ≤ 122) ∨ (65 ≤ c ∧ c ≤ 90) := by
  unfold bothL
  rw [List.mem_append, lowL_mem, upL_mem]
theorem lowL_getD {i : Nat} (h : i < 26) : lowL.getD i 0 = i + 97 := by unfold lowL; simp [h]
theorem upL_getD {i : Nat} (h : i < 26) : upL.getD i 0 = i + 65 := by unfold upL; simp [h]
theorem lowL_get {i : Nat} (h : i < 26) : lowL[i]? = some (i + 97) := by unfold lowL; simp [h]
/-! ### evaluation: first-order, one step after another -/
section
variable (r : Res (D × Mu)) (rt : Res (Bool × Mu)) (ra : Res (List D × Mu)) (ro : Res (Option Int × Mu)) (ri : Res (Src × Mu)) (f g : F2) (u : F1) (fn : FN) (fm : FM) (a b c : M) (ta tb : MT) (ms : MA) (lo hi : MO) (s t : SM) (e : Ev) (i : Nat) (x y : D) (T : Tg) (fl : Bool) (tst : MT) (own : List Nat) (n : Int) (ty : String)
def kB : Res (D × Mu) := r.bind fun x => (b e x.2).bind fun y => f x.1 y.1 y.2
def kB2 : Res (D × Mu) := r.bind fun y => f x y.1 y.2
def kU : Res (D × Mu) := r.bind fun x => u x.1 x.2
def kC1 : Res (List D × Mu) := r.bind fun x => (ms e x.2).bind fun y => .ok (x.1 :: y.1, y.2)
def kC2 : Res (List D × Mu) := ra.bind fun y => .ok (x :: y.1, y.2)
def kF : Res (D × Mu) := ra.bind fun x => fn x.1 x.2
def kTup : Res (D × Mu) := ra.bind fun x => if x.1.length ≤ lineN then .ok (.tup x.1, x.2) else .no
def kLst : Res (D × Mu) := ra.bind fun x => if x.1.length ≤ lineN then .ok (mkL fl x.1 x.2) else .no
def kTV : Res (Bool × Mu) := r.bind boolOf
def kTN : Res (Bool × Mu) := rt.bind fun x => .ok (!x.1, x.2)
def kTA : Res (Bool × Mu) := rt.bind fun x => if x.1 then tb e x.2 else .ok (false, x.2)
def kTO : Res (Bool × Mu) := rt.bind fun x => if x.1 then .ok (true, x.2) else tb e x.2
def kAnd : Res (D × Mu) := r.bind fun x => match x.1 with
  | .bl true => b e x.2
  | .bl false => .ok (.bl false, x.2)
  | _ => .no
def kOr : Res (D × Mu) := r.bind fun x => match x.1 with
  | .bl true => .ok (.bl true, x.2)
  | .bl false => b e x.2
  | _ => .no
def kIfE : Res (D × Mu) := rt.bind fun x => if x.1 then a e x.2 else b e x.2
def kH4 : Res (D × Mu) := r.bind fun w => g y w.1 w.2
def kH3 : Res (D × Mu) := r.bind fun z => match z.1 with
  | .bl true => (c e z.2).bind fun w => g y w.1 w.2
  | .bl false => .ok (.bl false, z.2)
  | _ => .no
def kH2 : Res (D × Mu) := r.bind fun y => (f x y.1 y.2).bind fun z => match z.1 with
  | .bl true => (c e z.2).bind fun w => g y.1 w.1 w.2
  | .bl false => .ok (.bl false, z.2)
  | _ => .no
def kH1 : Res (D × Mu) := r.bind fun x => (b e x.2).bind fun y => (f x.1 y.1 y.2).bind fun z => match z.1 with
  | .bl true => (c e z.2).bind fun w => g y.1 w.1 w.2
  | .bl false => .ok (.bl false, z.2)
  | _ => .no
def kO : Res (Option Int × Mu) := r.bind fun x => match x.1 with
  | .int i => .ok (some i, x.2)
  | _ => .no
def kS3 (l : Option Int) : Res (D × Mu) := ro.bind fun h => dSl fl x l h.1 h.2
def kS2 : Res (D × Mu) := ro.bind fun l => (hi e l.2).bind fun h => dSl fl x l.1 h.1 h.2
def kS1 : Res (D × Mu) := r.bind fun x => (lo e x.2).bind fun l => (hi e l.2).bind fun h => dSl fl x.1 l.1 h.1 h.2
def kK3 (l : Option Int) : Res (D × Mu) := ro.bind fun h => dSlK n x l h.1 h.2
def kK2 : Res (D × Mu) := ro.bind fun l => (hi e l.2).bind fun h => dSlK n x l.1 h.1 h.2
def kK1 : Res (D × Mu) := r.bind fun x => (lo e x.2).bind fun l => (hi e l.2).bind fun h => dSlK n x.1 l.1 h.1 h.2
def kM2 : Res (D × Mu) := ra.bind fun y => fm x y.1 y.2
def kM1 : Res (D × Mu) := r.bind fun x => if isT ty x.1 x.2 then (ms e x.2).bind fun y => fm x.1 y.1 y.2 else .no
def kMt2 : Res (D × Mu) := ra.bind fun y => fn (x :: y.1) y.2
def kMt1 : Res (D × Mu) := r.bind fun x => match oof x.1 x.2 with
  | some (c', _) => if c' = i then (ms e x.2).bind fun y => fn (x.1 :: y.1) y.2 else .no
  | none => .no
def kSeq (o : Option Ot) : Option Ot := match o with
  | some (.nx e' μ') => t e' μ'
  | r => r
def kExpr : Option Ot := eThen r e fun x => some (.nx e x.2)
def kRet : Option Ot := eThen r e fun x => some (.rt x.1 x.2)
def kSif : Option Ot := eThen rt e fun x => if x.1 then s e x.2 else t e x.2
def kSet : Option Ot := eThen r e fun x => some (.nx (e.set i (some x.1)) x.2)
def kAsg : Option Ot := eThen r e fun x => (setT T x.1 e).map fun e' => .nx e' x.2
noncomputable def kFor : Option Ot := eThen ri e fun x => forGo T s x.1 fuel 0 e x.2
def kSub3 : Option Ot := eThen r e fun z => (dSet y z.1 x z.2).map fun μ' => .nx e μ'
def kSub2 : Option Ot := eThen r e fun y => eThen (b e y.2) e fun z => (dSet y.1 z.1 x z.2).map fun μ' => .nx e μ'
def kSub1 : Option Ot := eThen r e fun x => eThen (a e x.2) e fun y => eThen (b e y.2) e fun z => (dSet y.1 z.1 x.1 z.2).map fun μ' => .nx e μ'
def kIV : Res (Src × Mu) := r.bind fun x => match x.1 with
  | .str s => .ok (.fix (s.map fun c => .str [c]), x.2)
  | .tup ds => .ok (.fix ds, x.2)
  | .lst ds => .ok (.fix ds, x.2)
  | .scr ds => .ok (.fix ds, x.2)
  | .ref n => match x.2[n]? with
    | some (.lst _) => .ok (.live (.ref n), x.2)
    | _ => .no
  | _ => .no
def kR1 : Res (Src × Mu) := ra.bind fun x => match x.1 with
  | [.int j] => if okR j then .ok (.fix (rangeD 0 j.toNat), x.2) else .no
  | _ => .no
def kR2 : Res (Src × Mu) := ra.bind fun x => match x.1 with
  | [.int i, .int j] => if okR i ∧ okR j then .ok (.fix (rangeD i (j - i).toNat), x.2) else .no
  | _ => .no
def kLc2 : Res (D × Mu) := ra.bind fun r => .ok (mkL fl r.1 r.2)
noncomputable def kLc1 : Res (D × Mu) := ri.bind fun x => (lcGo T tst a x.1 (wp0 own e) fuel 0 [] x.2).bind fun r => .ok (mkL fl r.1 r.2)
def kFl2 (j : Nat) : Option Ot := eThen r e fun y => match y.1 with
  | .ref n => match y.2[n]? with
    | some (.obj c' ds) => if c' = i then (setF j x ds).map fun ds' => .nx e (y.2.set n (.obj i ds')) else none
    | _ => none
  | _ => none
def kFl1 (j : Nat) : Option Ot := eThen r e fun x => eThen (a e x.2) e fun y => match y.1 with
  | .ref n => match y.2[n]? with
    | some (.obj c' ds) => if c' = i then (setF j x.1 ds).map fun ds' => .nx e (y.2.set n (.obj i ds')) else none
    | _ => none
  | _ => none
def kAug : Option Ot := eThen r e fun y => eThen (f x y.1 y.2) e fun r => some (.nx (e.set i (some r.1)) r.2)
end
section
variable {r : Res (D × Mu)} {rt : Res (Bool × Mu)} {ra : Res (List D × Mu)} {ro : Res (Option Int × Mu)} {ri : Res (Src × Mu)} {f g : F2} {u : F1} {fn : FN} {fm : FM} {a b c : M} {ta tb : MT} {ms : MA} {lo hi : MO} {s t : SM} {e : Ev} {i : Nat} {d x y : D} {T : Tg} {fl : Bool} {tst : MT} {own : List Nat} {n : Int} {ty : String} {μ : Mu} {k : Bool} {xs : List D} {it : MI} {l h : Option Int} {ρ : Src}
theorem eThen_ok {α : Type} {a : α} {e : Ev} {k : α → Option Ot} : eThen (.ok a) e k = k a := rfl
theorem e_K : cK d e μ = .ok (d, μ) := id rfl
theorem e_V : cV i e μ = (match e[i]? with
  | some (some d) => .ok (d, μ)
  | _ => .no) := rfl
theorem e_B : cB f a b e μ = kB (a e μ) f b e := id rfl
theorem e_B1 : kB (.ok (x, μ)) f b e = kB2 (b e μ) f x := id rfl
theorem e_B2 : kB2 (.ok (y, μ)) f x = f x y μ := id rfl
theorem e_U : cU u a e μ = kU (a e μ) u := id rfl
theorem e_U1 : kU (.ok (x, μ)) u = u x μ := id rfl
theorem e_nil : cNil e μ = .ok ([], μ) := id rfl
theorem e_cons : cCons a ms e μ = kC1 (a e μ) ms e := id rfl
theorem e_cons1 : kC1 (.ok (x, μ)) ms e = kC2 (ms e μ) x := id rfl
theorem e_cons2 : kC2 (.ok (xs, μ)) x = .ok (x :: xs, μ) := id rfl
theorem e_F : cF fn ms e μ = kF (ms e μ) fn := id rfl
theorem e_F1 : kF (.ok (xs, μ)) fn = fn xs μ := id rfl
theorem e_tup : cTup ms e μ = kTup (ms e μ) := id rfl
theorem e_tup1 (h : xs.length ≤ lineN) : kTup (.ok (xs, μ)) = .ok (.tup xs, μ) := if_pos h
theorem e_lst : cLst fl ms e μ = kLst (ms e μ) fl := id rfl
theorem e_lst1 (h : xs.length ≤ lineN) : kLst (.ok (xs, μ)) fl = .ok (mkL fl xs μ) := if_pos h
theorem e_tVal : tVal a e μ = kTV (a e μ) := id rfl
theorem e_tVal1 : kTV (.ok (.bl k, μ)) = .ok (k, μ) := id rfl
theorem e_tNot : tNotD ta e μ = kTN (ta e μ) := id rfl
theorem e_tNot1 : kTN (.ok (k, μ)) = .ok (!k, μ) := id rfl
theorem e_tAnd : tAndD ta tb e μ = kTA (ta e μ) tb e := id rfl
theorem e_tAndT : kTA (.ok (true, μ)) tb e = tb e μ := id rfl
theorem e_tAndF : kTA (.ok (false, μ)) tb e = .ok (false, μ) := id rfl
theorem e_tOr : tOrD ta tb e μ = kTO (ta e μ) tb e := id rfl
theorem e_tOrT : kTO (.ok (true, μ)) tb e = .ok (true, μ) := id rfl
theorem e_tOrF : kTO (.ok (false, μ)) tb e = tb e μ := id rfl
theorem e_and : cAndD a b e μ = kAnd (a e μ) b e := id rfl
theorem e_andT : kAnd (.ok (.bl true, μ)) b e = b e μ := id rfl
theorem e_andF : kAnd (.ok (.bl false, μ)) b e = .ok (.bl false, μ) := id rfl
theorem e_or : cOrD a b e μ = kOr (a e μ) b e := id rfl
theorem e_orT : kOr (.ok (.bl true, μ)) b e = .ok (.bl true, μ) := id rfl
theorem e_orF : kOr (.ok (.bl false, μ)) b e = b e μ := id rfl
theorem e_not : dNot (.bl k) μ = .ok (.bl (!k), μ) := id rfl
theorem e_if : cIf ta a b e μ = kIfE (ta e μ) a b e := id rfl
theorem e_ifT : kIfE (.ok (true, μ)) a b e = a e μ := id rfl
theorem e_ifF : kIfE (.ok (false, μ)) a b e = b e μ := id rfl
theorem e_ch : cCh f g a b c e μ = kH1 (a e μ) f g b c e := id rfl
theorem e_ch1 : kH1 (.ok (x, μ)) f g b c e = kH2 (b e μ) f g c e x := id rfl
theorem e_ch2 : kH2 (.ok (y, μ)) f g c e x = kH3 (f x y μ) g c e y := id rfl
theorem e_chT : kH3 (.ok (.bl true, μ)) g c e y = kH4 (c e μ) g y := id rfl
theorem e_chF : kH3 (.ok (.bl false, μ)) g c e y = .ok (.bl false, μ) := id rfl
theorem e_ch4 : kH4 (.ok (x, μ)) g y = g y x μ := id rfl
theorem e_oNone : oNone e μ = .ok (none, μ) := id rfl
theorem e_oSome : oSome a e μ = kO (a e μ) := id rfl
theorem e_oSome1 : kO (.ok (.int n, μ)) = .ok (some n, μ) := id rfl
theorem e_sl : cSl fl a lo hi e μ = kS1 (a e μ) lo hi e fl := id rfl
theorem e_sl1 : kS1 (.ok (x, μ)) lo hi e fl = kS2 (lo e μ) hi e x fl := id rfl
theorem e_sl2 : kS2 (.ok (l, μ)) hi e x fl = kS3 (hi e μ) x fl l := id rfl
theorem e_sl3 : kS3 (.ok (h, μ)) x fl l = dSl fl x l h μ := id rfl
theorem e_slK : cSlK n a lo hi e μ = kK1 (a e μ) lo hi e n := id rfl
theorem e_slK1 : kK1 (.ok (x, μ)) lo hi e n = kK2 (lo e μ) hi e x n := id rfl
theorem e_slK2 : kK2 (.ok (l, μ)) hi e x n = kK3 (hi e μ) x n l := id rfl
theorem e_slK3 : kK3 (.ok (h, μ)) x n l = dSlK n x l h μ := id rfl
theorem e_M : cM ty fm a ms e μ = kM1 (a e μ) fm ms e ty := id rfl
theorem e_M1 (h : isT ty x μ = true) : kM1 (.ok (x, μ)) fm ms e ty = kM2 (ms e μ) fm x := if_pos h
theorem e_M2 : kM2 (.ok (xs, μ)) fm x = fm x xs μ := id rfl
theorem e_Mt : cMt i fn a ms e μ = kMt1 (a e μ) fn ms e i := id rfl
theorem e_Mt1 {ds : List D} : kMt1 (.ok (.obj i ds, μ)) fn ms e i = kMt2 (ms e μ) fn (.obj i ds) := if_pos rfl
theorem e_Mt1r {ds : List D} {j : Nat} (h : μ[j]? = some (.obj i ds)) : kMt1 (.ok (.ref j, μ)) fn ms e i = kMt2 (ms e μ) fn (.ref j) := by
  show (match oof (.ref j) μ with
  | some (c', _) => if c' = i then (ms e μ).bind fun y => fn ((.ref j) :: y.1) y.2 else .no
  | none => .no) = _
  have : oof (.ref j) μ = some (i, ds) := by unfold oof; simp only [h]
  rw [this]
  exact if_pos rfl
theorem e_Mt2 : kMt2 (.ok (xs, μ)) fn x = fn (x :: xs) μ := id rfl
theorem e_next : sNext e μ = some (.nx e μ) := id rfl
theorem e_seq : sSeq s t e μ = kSeq t (s e μ) := id rfl
theorem e_seq_nx : kSeq t (some (.nx e μ)) = t e μ := id rfl
theorem e_seq_rt : kSeq t (some (.rt d μ)) = some (.rt d μ) := id rfl
theorem e_seq_bk : kSeq t (some (.bk e μ)) = some (.bk e μ) := id rfl
theorem e_seq_ct : kSeq t (some (.ct e μ)) = some (.ct e μ) := id rfl
theorem e_expr : sExpr a e μ = kExpr (a e μ) e := id rfl
theorem e_expr1 : kExpr (.ok (x, μ)) e = some (.nx e μ) := id rfl
theorem e_ret : sRet a e μ = kRet (a e μ) e := id rfl
theorem e_ret1 : kRet (.ok (x, μ)) e = some (.rt x μ) := id rfl
theorem e_retN : sRetN e μ = some (.rt .non μ) := id rfl
theorem e_brk : sBrk e μ = some (.bk e μ) := id rfl
theorem e_cnt : sCnt e μ = some (.ct e μ) := id rfl
theorem e_sno : sNo e μ = none := id rfl
theorem e_sif : sIf ta s t e μ = kSif (ta e μ) s t e := id rfl
theorem e_sifT : kSif (.ok (true, μ)) s t e = s e μ := id rfl
theorem e_sifF : kSif (.ok (false, μ)) s t e = t e μ := id rfl
theorem e_set : sSet i a e μ = kSet (a e μ) e i := id rfl
theorem e_set1 : kSet (.ok (x, μ)) e i = some (.nx (e.set i (some x)) μ) := id rfl
theorem e_asg : sAsg T a e μ = kAsg (a e μ) e T := id rfl
theorem e_asg1 {e' : Ev} (h : setT T x e = some e') : kAsg (.ok (x, μ)) e T = some (.nx e' μ) := by unfold kAsg; rw [eThen_ok, h]; rfl
theorem e_for : sFor T it s e μ = kFor (it e μ) s e T := id rfl
theorem e_for1 : kFor (.ok (ρ, μ)) s e T = forGo T s ρ fuel 0 e μ := by unfold kFor; rw [eThen_ok]
theorem e_while : sWhile ta s e μ = whGo ta s fuel e μ := id rfl
theorem e_sub : sSub a b c e μ = kSub1 (c e μ) a b e := by
  unfold sSub kSub1
  cases c e μ with
  | ok x =>
    show eThen ((a e x.2).bind _) _ _ = eThen (a e x.2) _ _
    cases a e x.2 with
    | ok y => show eThen ((b e y.2).bind _) _ _ = eThen (b e y.2) _ _; cases b e y.2 <;> rfl
    | ex => rfl
    | no => rfl
  | ex => rfl
  | no => rfl
theorem e_sub1 : kSub1 (.ok (x, μ)) a b e = kSub2 (a e μ) b e x := id rfl
theorem e_sub2 : kSub2 (.ok (y, μ)) b e x = kSub3 (b e μ) e x y := id rfl
theorem e_sub3 {z : D} {μ' : Mu} (h : dSet y z x μ = some μ') : kSub3 (.ok (z, μ)) e x y = some (.nx e μ') := by unfold kSub3; rw [eThen_ok, h]; rfl
theorem e_tTrue : tTrue e μ = .ok (true, μ) := id rfl
theorem e_lc : cLc fl T it tst a own e μ = kLc1 (it e μ) a e T fl tst own := id rfl
theorem bind_ok {α β : Type} {a : α} {f : α → Res β} : (Res.ok a).bind f = f a := rfl
theorem e_lc1 : kLc1 (.ok (ρ, μ)) a e T fl tst own = kLc2 (lcGo T tst a ρ (wp0 own e) fuel 0 [] μ) fl := by unfold kLc1 kLc2; rw [bind_ok]
theorem e_lc2 : kLc2 (.ok (xs, μ)) fl = .ok (mkL fl xs μ) := id rfl
theorem e_iVal : iVal a e μ = kIV (a e μ) := id rfl
theorem e_iValS {z : List Nat} : kIV (.ok (.str z, μ)) = .ok (.fix (z.map fun c => .str [c]), μ) := id rfl
theorem e_iValT : kIV (.ok (.tup xs, μ)) = .ok (.fix xs, μ) := id rfl
theorem e_iValL : kIV (.ok (.lst xs, μ)) = .ok (.fix xs, μ) := id rfl
theorem e_iValC : kIV (.ok (.scr xs, μ)) = .ok (.fix xs, μ) := id rfl
theorem e_range1 : iRange1 ms e μ = kR1 (ms e μ) := id rfl
theorem e_range1' (h0 : -4611686018427387904 ≤ n) (h1 : n < 4611686018427387904) : kR1 (.ok ([.int n], μ)) = .ok (.fix (rangeD 0 n.toNat), μ) := if_pos ⟨h0, h1⟩
theorem e_range2 : iRange2 ms e μ = kR2 (ms e μ) := id rfl
theorem e_range2' {m : Int} (h0 : -4611686018427387904 ≤ n) (h1 : n < 4611686018427387904) (h2 : -4611686018427387904 ≤ m) (h3 : m < 4611686018427387904) : kR2 (.ok ([.int n, .int m], μ)) = .ok (.fix (rangeD n (m - n).toNat), μ) := if_pos ⟨⟨h0, h1⟩, ⟨h2, h3⟩⟩
theorem mkL_f {ds : List D} : mkL false ds μ = (.lst ds, μ) := id rfl
theorem mkL_t {ds : List D} : mkL true ds μ = (.ref μ.length, μ ++ [.lst ds]) := id rfl
theorem setT_nm {d : D} : setT (.nm i) d e = some (e.set i (some d)) := id rfl
theorem e_fl {j : Nat} : sFl i j a b e μ = kFl1 (b e μ) a e i j := by
  unfold sFl kFl1
  cases b e μ with
  | ok x => show eThen ((a e x.2).bind _) _ _ = eThen (a e x.2) _ _; cases a e x.2 <;> rfl
  | ex => rfl
  | no => rfl
theorem e_fl1 {j : Nat} : kFl1 (.ok (x, μ)) a e i j = kFl2 (a e μ) e i x j := id rfl
theorem e_fl2 {j m : Nat} {ds ds' : List D} (h : μ[m]? = some (.obj i ds)) (h2 : setF j x ds = some ds') : kFl2 (.ok (.ref m, μ)) e i x j = some (.nx e (μ.set m (.obj i ds'))) := by
  unfold kFl2
  rw [eThen_ok]
  simp only [h, h2]
  rw [if_pos trivial]; rfl
theorem e_aug : sAug i f a e μ = (match e[i]? with
  | some (some d) => kAug (a e μ) f e i d
  | _ => none) := by
  unfold sAug kAug
  cases e[i]? with
  | none => rfl
  | some o => cases o with
    | none => rfl
    | some d => dsimp only; cases a e μ <;> rfl
theorem e_aug1 : kAug (.ok (y, μ)) f e i x = kSet (f x y μ) e i := by unfold kAug kSet; rw [eThen_ok]
end
/-! operations -/
section
variable {μ : Mu} {i j : Int} {x y : List Nat} {ds : List D} {fl : Bool}
theorem log2_lt {j : Int} {k : Nat} (h0 : 0 < j) (h1 : j < 2 ^ k) : j.natAbs.log2 < k := by
  have hj : j.natAbs ≠ 0 := by omega
  have h : j.natAbs < 2 ^ k := by
    have : (j.natAbs : Int) = j := by omega
    have h2 : (j.natAbs : Int) < ((2 ^ k : Nat) : Int) := by rw [this]; push_cast; exact h1
    exact_mod_cast h2
  exact (Nat.log2_lt hj).mpr h
theorem okDiv_of (h0 : 0 < j) (h1 : j < 1000000000000000000000000000000000000000000000000000000000000000000000000000) : okDiv j :=
  ⟨h0, Nat.lt_trans (log2_lt (k := 250) h0 (Int.lt_trans h1 (by decide))) (by decide)⟩
theorem d_div (h0 : 0 < j) (h1 : j < 1000000000000000000000000000000000000000000000000000000000000000000000000000) : dDiv (.int i) (.int j) μ = .ok (.int (i / j), μ) := if_pos (okDiv_of h0 h1)
theorem d_mod (h0 : 0 < j) : dMod (.int i) (.int j) μ = .ok (.int (i % j), μ) := if_pos h0
theorem d_sub : dSub (.int i) (.int j) μ = .ok (.int (i - j), μ) := id rfl
theorem d_add : dAdd fl (.int i) (.int j) μ = .ok (.int (i + j), μ) := id rfl
theorem d_addS (h : x.length + y.length ≤ lineN) : dAdd fl (.str x) (.str y) μ = .ok (.str (x ++ y), μ) := if_pos h
theorem d_addL {xs ys : List D} (h : xs.length + ys.length ≤ lineN) : dAdd fl (.lst xs) (.lst ys) μ = .ok (mkL fl (xs ++ ys) μ) := if_pos h
theorem d_addT {xs ys : List D} (h : xs.length + ys.length ≤ lineN) : dAdd fl (.tup xs) (.tup ys) μ = .ok (.tup (xs ++ ys), μ) := if_pos h
theorem d_neg : dNeg (.int i) μ = .ok (.int (-i), μ) := id rfl
theorem d_mul1 (h0 : -(2 ^ 64) < i) (h1 : i < 2 ^ 64) : dMul fl (.int i) (.int j) μ = .ok (.int (i * j), μ) := if_pos (.inl ⟨h0, h1⟩)
theorem d_mul2 (h0 : -(2 ^ 64) < j) (h1 : j < 2 ^ 64) : dMul fl (.int i) (.int j) μ = .ok (.int (i * j), μ) := if_pos (.inr (.inl ⟨h0, h1⟩))
theorem okR_iff : okR i ↔ -4611686018427387904 ≤ i ∧ i < 4611686018427387904 := Iff.rfl
theorem atI_pos {α : Type} {xs : List α} (h0 : 0 ≤ i) (h1 : i < xs.length) : atI xs i = xs[i.toNat]? := by
  unfold atI ixN
  rw [if_pos h0, if_pos h1]; rfl
theorem atI_neg {α : Type} {xs : List α} (h0 : i < 0) (h1 : -(xs.length : Int) ≤ i) : atI xs i = xs[(i + xs.length).toNat]? := by
  unfold atI ixN
  rw [if_neg (by omega), if_pos h1]; rfl
theorem d_ixS (h0 : 0 ≤ i) (h1 : i < x.length) : dIx (.str x) (.int i) μ = .ok (.str [x.getD i.toNat 0], μ) := by
  unfold dIx
  have : i.toNat < x.length := by omega
  simp [atI_pos h0 h1, this]
theorem d_ixT (h0 : 0 ≤ i) (h1 : i < ds.length) : dIx (.tup ds) (.int i) μ = .ok (ds.getD i.toNat .non, μ) := by
  unfold dIx
  have : i.toNat < ds.length := by omega
  simp [atI_pos h0 h1, this]
theorem d_ixL (h0 : 0 ≤ i) (h1 : i < ds.length) : dIx (.lst ds) (.int i) μ = .ok (ds.getD i.toNat .non, μ) := by
  unfold dIx
  have : i.toNat < ds.length := by omega
  simp [lof, atI_pos h0 h1, this]
theorem d_ixC (h0 : 0 ≤ i) (h1 : i < ds.length) : dIx (.scr ds) (.int i) μ = .ok (ds.getD i.toNat .non, μ) := by
  unfold dIx
  have : i.toNat < ds.length := by omega
  simp [lof, atI_pos h0 h1, this]
theorem d_slS {lo hi : Option Int} : dSl fl (.str x) lo hi μ = .ok (.str (cutL x lo hi), μ) := id rfl
theorem d_slT {lo hi : Option Int} : dSl fl (.tup ds) lo hi μ = .ok (.tup (cutL ds lo hi), μ) := id rfl
theorem d_slL {lo hi : Option Int} : dSl fl (.lst ds) lo hi μ = .ok (mkL fl (cutL ds lo hi) μ) := id rfl
theorem d_slC {lo hi : Option Int} : dSl fl (.scr ds) lo hi μ = .ok (mkL fl (cutL ds lo hi) μ) := id rfl
theorem d_slKS {k : Int} {lo hi : Option Int} : dSlK k (.str x) lo hi μ = .ok (.str (cutK x lo hi k), μ) := id rfl
theorem cutL_map {α β : Type} {g : α → β} {xs : List α} {lo hi : Option Int} : cutL (xs.map g) lo hi = (cutL xs lo hi).map g := by unfold cutL; rw [List.length_map, List.map_take, List.map_drop]
theorem d_ltI : dLt (.int i) (.int j) μ = .ok (.bl (decide (i < j)), μ) := id rfl
theorem d_leI : dLe (.int i) (.int j) μ = .ok (.bl (decide (i ≤ j)), μ) := id rfl
theorem d_gtI : dGt (.int i) (.int j) μ = .ok (.bl (decide (j < i)), μ) := id rfl
theorem d_geI : dGe (.int i) (.int j) μ = .ok (.bl (decide (j ≤ i)), μ) := id rfl
theorem d_lenS : dLen [.str x] μ = .ok (.int x.length, μ) := id rfl
theorem d_lenT : dLen [.tup ds] μ = .ok (.int ds.length, μ) := id rfl
theorem d_lenL : dLen [.lst ds] μ = .ok (.int ds.length, μ) := id rfl
theorem d_lenC : dLen [.scr ds] μ = .ok (.int ds.length, μ) := id rfl
theorem d_inS {c : Nat} : dIn (.str [c]) (.str x) μ = .ok (.bl (decide (c ∈ x)), μ) := id rfl
theorem d_notInS {c : Nat} : dNotIn (.str [c]) (.str x) μ = .ok (.bl (!decide (c ∈ x)), μ) := id rfl
/-! data -/
theorem toPs_nil : toPs [] = [] := rfl
theorem toPs_cons {d : D} : toPs (d :: ds) = toP d :: toPs ds := rfl
theorem pds_nil {k : Nat} : pds k [] = true := by cases k <;> rfl
theorem pds_cons {k : Nat} {d : D} : pds k (d :: ds) = (pd k d && pds k ds) := by cases k <;> rfl
theorem pd_int {k : Nat} : pd k (.int i) = true := by cases k <;> rfl
theorem pd_str {k : Nat} : pd k (.str x) = true := by cases k <;> rfl
theorem pd_bl {k : Nat} {b : Bool} : pd k (.bl b) = true := by cases k <;> rfl
theorem pd_non {k : Nat} : pd k .non = true := by cases k <;> rfl
theorem pd_tup {k : Nat} : pd (k + 1) (.tup ds) = pds k ds := rfl
theorem pd_lst {k : Nat} : pd (k + 1) (.lst ds) = pds k ds := rfl
theorem pd_scr {k : Nat} : pd (k + 1) (.scr ds) = pds k ds := rfl
theorem pds_map {α : Type} {k : Nat} {f : α → D} {xs : List α} (h : ∀ a ∈ xs, pd k (f a) = true) : pds k (xs.map f) = true := by
  induction xs with
  | nil => exact pds_nil
  | cons a r ih => rw [List.map_cons, pds_cons, h a (by simp), ih fun b hb => h b (by simp [hb])]; rfl
theorem vE_pd {d : D} (h : pd 20 d = true) : vE μ d = some d := if_pos h
theorem d_eq {a b : D} (h1 : pd 20 a = true) (h2 : pd 20 b = true) : dEq a b μ = .ok (.bl (beqD a b), μ) := by unfold dEq dEqB; rw [vE_pd h1, vE_pd h2]; rfl
theorem d_ne {a b : D} (h1 : pd 20 a = true) (h2 : pd 20 b = true) : dNe a b μ = .ok (.bl (!beqD a b), μ) := by unfold dNe dEqB; rw [vE_pd h1, vE_pd h2]; rfl
theorem d_eqI : dEq (.int i) (.int j) μ = .ok (.bl (decide (i = j)), μ) := by
  rw [d_eq rfl rfl]; unfold beqD; simp only [toP, PyData.eqv]; rw [Bool.beq_eq_decide_eq]
theorem d_neI : dNe (.int i) (.int j) μ = .ok (.bl (!decide (i = j)), μ) := by
  rw [d_ne rfl rfl]; unfold beqD; simp only [toP, PyData.eqv]; rw [Bool.beq_eq_decide_eq]
theorem d_eqS : dEq (.str x) (.str y) μ = .ok (.bl (decide (x = y)), μ) := by
  rw [d_eq rfl rfl]; unfold beqD; simp only [toP, PyData.eqv]; rw [beq_S]
theorem d_neS : dNe (.str x) (.str y) μ = .ok (.bl (!decide (x = y)), μ) := by
  rw [d_ne rfl rfl]; unfold beqD; simp only [toP, PyData.eqv]; rw [beq_S]
theorem d_eqB {a b : Bool} : dEq (.bl a) (.bl b) μ = .ok (.bl (decide (a = b)), μ) := by
  rw [d_eq rfl rfl]; unfold beqD; simp only [toP, PyData.eqv]; rw [Bool.beq_eq_decide_eq]
theorem d_neB {a b : Bool} : dNe (.bl a) (.bl b) μ = .ok (.bl (!decide (a = b)), μ) := by
  rw [d_ne rfl rfl]; unfold beqD; simp only [toP, PyData.eqv]; rw [Bool.beq_eq_decide_eq]
mutual
theorem beqD_refl' : ∀ d : D, ∀ k, pd k d = true → PyData.eqv (toP d) (toP d) = true
  | .non, _, _ => rfl
  | .bl b, _, _ => by cases b <;> rfl
  | .int i, _, _ => by simp [toP, PyData.eqv]
  | .str x, _, _ => by simp [toP, PyData.eqv]
  | .tup ds, 0, h => by simp [pd] at h
  | .tup ds, k + 1, h => by simpa [toP, PyData.eqv] using beqDs_refl' ds k h
  | .lst ds, 0, h => by simp [pd] at h
  | .lst ds, k + 1, h => by simpa [toP, PyData.eqv] using beqDs_refl' ds k h
  | .scr ds, 0, h => by simp [pd] at h
  | .scr ds, k + 1, h => by simpa [toP, PyData.eqv] using beqDs_refl' ds k h
  | .dic _, _, h => by simp [pd] at h
  | .dit _, _, h => by simp [pd] at h
  | .obj _ _, _, h => by simp [pd] at h
  | .ref _, _, h => by simp [pd] at h
theorem beqDs_refl' : ∀ ds : List D, ∀ k, pds k ds = true → PyData.eqvAll (toPs ds) (toPs ds) = true
  | [], _, _ => rfl
  | d :: ds, k, h => by
    rw [pds_cons, Bool.and_eq_true] at h
    simp only [toPs, PyData.eqvAll, beqD_refl' d k h.1, beqDs_refl' ds k h.2]; rfl
end
theorem beqD_refl {d : D} {k : Nat} (h : pd k d = true) : beqD d d = true := beqD_refl' d k h
end
theorem len_le {a : Nat} (h : a ≤ 16777216) : a ≤ lineN := h
theorem fuel_lt {a : Nat} (h : a < 16777300) : a < fuel := Nat.lt_of_lt_of_le h fuel_ge
/-! what is frozen -/
theorem nrs_nil : nrs [] = true := rfl
theorem nrs_cons {d : D} {ds : List D} : nrs (d :: ds) = (nr d && nrs ds) := rfl
theorem nr_int {i : Int} : nr (.int i) = true := rfl
theorem nr_str {x : List Nat} : nr (.str x) = true := rfl
theorem nr_bl {b : Bool} : nr (.bl b) = true := rfl
theorem nr_non : nr .non = true := rfl
theorem nr_tup {ds : List D} : nr (.tup ds) = nrs ds := rfl
theorem nr_lst {ds : List D} : nr (.lst ds) = nrs ds := rfl
theorem nr_scr {ds : List D} : nr (.scr ds) = nrs ds := rfl
theorem nr_ref {n : Nat} : nr (.ref n) = false := rfl
theorem nr_obj {c : Nat} {ds : List D} : nr (.obj c ds) = nrs ds := rfl
theorem nrs_map {α : Type} {f : α → D} {xs : List α} (h : ∀ a ∈ xs, nr (f a) = true) : nrs (xs.map f) = true := by
  induction xs with
  | nil => rfl
  | cons a r ih => rw [List.map_cons, nrs_cons, h a (by simp), ih fun b hb => h b (by simp [hb])]; rfl
theorem nrs_ints {ns : List Int} : nrs (ns.map D.int) = true := nrs_map fun _ _ => rfl
theorem nrs_strs {ns : List (List Nat)} : nrs (ns.map D.str) = true := nrs_map fun _ _ => rfl
theorem pds_ints {k : Nat} {ns : List Int} : pds k (ns.map D.int) = true := pds_map fun _ _ => pd_int
theorem pds_strs {k : Nat} {ns : List (List Nat)} : pds k (ns.map D.str) = true := pds_map fun _ _ => pd_str
/-- a pure call of a def whose meaning is known -/
theorem pureC_ok {F : GF} {ds : List D} {μ μ' : Mu} {d : D} (h : F ds [] = .ok (d, μ')) (h1 : nrs ds = true) (h2 : vw μ' d = some d') : pureC F ds μ = .ok (d', μ) := by
  unfold pureC
  rw [if_pos h1, h]
  unfold retW
  simp only [h2]
theorem pureC_nr {F : GF} {ds : List D} {μ μ' : Mu} {d : D} (h : F ds [] = .ok (d, μ')) (h1 : nrs ds = true) (h2 : nr d = true) : pureC F ds μ = .ok (d, μ) := pureC_ok h h1 (if_pos h2)

/-! isinstance -/
theorem isi_str_non {μ : Mu} : dIsi "str" .non μ = .ok (.bl false, μ) := by first | rfl | (show (match kitB "NoneType" "str" with | some b => Res.ok (D.bl b, μ) | none => .no) = _; rw [show kitB "NoneType" "str" = some false by decide +kernel])
theorem isi_str_bl {μ : Mu} {b : Bool} : dIsi "str" (.bl b) μ = .ok (.bl false, μ) := by first | rfl | (show (match kitB "bool" "str" with | some b => Res.ok (D.bl b, μ) | none => .no) = _; rw [show kitB "bool" "str" = some false by decide +kernel])
theorem isi_str_int {μ : Mu} {i : Int} : dIsi "str" (.int i) μ = .ok (.bl false, μ) := by first | rfl | (show (match kitB "int" "str" with | some b => Res.ok (D.bl b, μ) | none => .no) = _; rw [show kitB "int" "str" = some false by decide +kernel])
theorem isi_str_str {μ : Mu} {x : List Nat} : dIsi "str" (.str x) μ = .ok (.bl true, μ) := by first | rfl | (show (match kitB "str" "str" with | some b => Res.ok (D.bl b, μ) | none => .no) = _; rw [show kitB "str" "str" = some true by decide +kernel])
theorem isi_str_tup {μ : Mu} {ds : List D} : dIsi "str" (.tup ds) μ = .ok (.bl false, μ) := by first | rfl | (show (match kitB "tuple" "str" with | some b => Res.ok (D.bl b, μ) | none => .no) = _; rw [show kitB "tuple" "str" = some false by decide +kernel])
theorem isi_str_lst {μ : Mu} {ds : List D} : dIsi "str" (.lst ds) μ = .ok (.bl false, μ) := by first | rfl | (show (match kitB "list" "str" with | some b => Res.ok (D.bl b, μ) | none => .no) = _; rw [show kitB "list" "str" = some false by decide +kernel])
theorem isi_int_non {μ : Mu} : dIsi "int" .non μ = .ok (.bl false, μ) := by first | rfl | (show (match kitB "NoneType" "int" with | some b => Res.ok (D.bl b, μ) | none => .no) = _; rw [show kitB "NoneType" "int" = some false by decide +kernel])
theorem isi_int_bl {μ : Mu} {b : Bool} : dIsi "int" (.bl b) μ = .ok (.bl true, μ) := by first | rfl | (show (match kitB "bool" "int" with | some b => Res.ok (D.bl b, μ) | none => .no) = _; rw [show kitB "bool" "int" = some true by decide +kernel])
theorem isi_int_int {μ : Mu} {i : Int} : dIsi "int" (.int i) μ = .ok (.bl true, μ) := by first | rfl | (show (match kitB "int" "int" with | some b => Res.ok (D.bl b, μ) | none => .no) = _; rw [show kitB "int" "int" = some true by decide +kernel])
theorem isi_int_str {μ : Mu} {x : List Nat} : dIsi "int" (.str x) μ = .ok (.bl false, μ) := by first | rfl | (show (match kitB "str" "int" with | some b => Res.ok (D.bl b, μ) | none => .no) = _; rw [show kitB "str" "int" = some false by decide +kernel])
theorem isi_int_tup {μ : Mu} {ds : List D} : dIsi "int" (.tup ds) μ = .ok (.bl false, μ) := by first | rfl | (show (match kitB "tuple" "int" with | some b => Res.ok (D.bl b, μ) | none => .no) = _; rw [show kitB "tuple" "int" = some false by decide +kernel])
theorem isi_int_lst {μ : Mu} {ds : List D} : dIsi "int" (.lst ds) μ = .ok (.bl false, μ) := by first | rfl | (show (match kitB "list" "int" with | some b => Res.ok (D.bl b, μ) | none => .no) = _; rw [show kitB "list" "int" = some false by decide +kernel])
theorem isi_bool_non {μ : Mu} : dIsi "bool" .non μ = .ok (.bl false, μ) := by first | rfl | (show (match kitB "NoneType" "bool" with | some b => Res.ok (D.bl b, μ) | none => .no) = _; rw [show kitB "NoneType" "bool" = some false by decide +kernel])
theorem isi_bool_bl {μ : Mu} {b : Bool} : dIsi "bool" (.bl b) μ = .ok (.bl true, μ) := by first | rfl | (show (match kitB "bool" "bool" with | some b => Res.ok (D.bl b, μ) | none => .no) = _; rw [show kitB "bool" "bool" = some true by decide +kernel])
theorem isi_bool_int {μ : Mu} {i : Int} : dIsi "bool" (.int i) μ = .ok (.bl false, μ) := by first | rfl | (show (match kitB "int" "bool" with | some b => Res.ok (D.bl b, μ) | none => .no) = _; rw [show kitB "int" "bool" = some false by decide +kernel])
theorem isi_bool_str {μ : Mu} {x : List Nat} : dIsi "bool" (.str x) μ = .ok (.bl false, μ) := by first | rfl | (show (match kitB "str" "bool" with | some b => Res.ok (D.bl b, μ) | none => .no) = _; rw [show kitB "str" "bool" = some false by decide +kernel])
theorem isi_bool_tup {μ : Mu} {ds : List D} : dIsi "bool" (.tup ds) μ = .ok (.bl false, μ) := by first | rfl | (show (match kitB "tuple" "bool" with | some b => Res.ok (D.bl b, μ) | none => .no) = _; rw [show kitB "tuple" "bool" = some false by decide +kernel])
theorem isi_bool_lst {μ : Mu} {ds : List D} : dIsi "bool" (.lst ds) μ = .ok (.bl false, μ) := by first | rfl | (show (match kitB "list" "bool" with | some b => Res.ok (D.bl b, μ) | none => .no) = _; rw [show kitB "list" "bool" = some false by decide +kernel])
theorem isi_tuple_non {μ : Mu} : dIsi "tuple" .non μ = .ok (.bl false, μ) := by first | rfl | (show (match kitB "NoneType" "tuple" with | some b => Res.ok (D.bl b, μ) | none => .no) = _; rw [show kitB "NoneType" "tuple" = some false by decide +kernel])
theorem isi_tuple_bl {μ : Mu} {b : Bool} : dIsi "tuple" (.bl b) μ = .ok (.bl false, μ) := by first | rfl | (show (match kitB "bool" "tuple" with | some b => Res.ok (D.bl b, μ) | none => .no) = _; rw [show kitB "bool" "tuple" = some false by decide +kernel])
theorem isi_tuple_int {μ : Mu} {i : Int} : dIsi "tuple" (.int i) μ = .ok (.bl false, μ) := by first | rfl | (show (match kitB "int" "tuple" with | some b => Res.ok (D.bl b, μ) | none => .no) = _; rw [show kitB "int" "tuple" = some false by decide +kernel])
theorem isi_tuple_str {μ : Mu} {x : List Nat} : dIsi "tuple" (.str x) μ = .ok (.bl false, μ) := by first | rfl | (show (match kitB "str" "tuple" with | some b => Res.ok (D.bl b, μ) | none => .no) = _; rw [show kitB "str" "tuple" = some false by decide +kernel])
theorem isi_tuple_tup {μ : Mu} {ds : List D} : dIsi "tuple" (.tup ds) μ = .ok (.bl true, μ) := by first | rfl | (show (match kitB "tuple" "tuple" with | some b => Res.ok (D.bl b, μ) | none => .no) = _; rw [show kitB "tuple" "tuple" = some true by decide +kernel])
theorem isi_tuple_lst {μ : Mu} {ds : List D} : dIsi "tuple" (.lst ds) μ = .ok (.bl false, μ) := by first | rfl | (show (match kitB "list" "tuple" with | some b => Res.ok (D.bl b, μ) | none => .no) = _; rw [show kitB "list" "tuple" = some false by decide +kernel])
theorem isi_list_non {μ : Mu} : dIsi "list" .non μ = .ok (.bl false, μ) := by first | rfl | (show (match kitB "NoneType" "list" with | some b => Res.ok (D.bl b, μ) | none => .no) = _; rw [show kitB "NoneType" "list" = some false by decide +kernel])
theorem isi_list_bl {μ : Mu} {b : Bool} : dIsi "list" (.bl b) μ = .ok (.bl false, μ) := by first | rfl | (show (match kitB "bool" "list" with | some b => Res.ok (D.bl b, μ) | none => .no) = _; rw [show kitB "bool" "list" = some false by decide +kernel])
theorem isi_list_int {μ : Mu} {i : Int} : dIsi "list" (.int i) μ = .ok (.bl false, μ) := by first | rfl | (show (match kitB "int" "list" with | some b => Res.ok (D.bl b, μ) | none => .no) = _; rw [show kitB "int" "list" = some false by decide +kernel])
theorem isi_list_str {μ : Mu} {x : List Nat} : dIsi "list" (.str x) μ = .ok (.bl false, μ) := by first | rfl | (show (match kitB "str" "list" with | some b => Res.ok (D.bl b, μ) | none => .no) = _; rw [show kitB "str" "list" = some false by decide +kernel])
theorem isi_list_tup {μ : Mu} {ds : List D} : dIsi "list" (.tup ds) μ = .ok (.bl false, μ) := by first | rfl | (show (match kitB "tuple" "list" with | some b => Res.ok (D.bl b, μ) | none => .no) = _; rw [show kitB "tuple" "list" = some false by decide +kernel])
theorem isi_list_lst {μ : Mu} {ds : List D} : dIsi "list" (.lst ds) μ = .ok (.bl true, μ) := by first | rfl | (show (match kitB "list" "list" with | some b => Res.ok (D.bl b, μ) | none => .no) = _; rw [show kitB "list" "list" = some true by decide +kernel])
theorem isi_dict_non {μ : Mu} : dIsi "dict" .non μ = .ok (.bl false, μ) := by first | rfl | (show (match kitB "NoneType" "dict" with | some b => Res.ok (D.bl b, μ) | none => .no) = _; rw [show kitB "NoneType" "dict" = some false by decide +kernel])
theorem isi_dict_bl {μ : Mu} {b : Bool} : dIsi "dict" (.bl b) μ = .ok (.bl false, μ) := by first | rfl | (show (match kitB "bool" "dict" with | some b => Res.ok (D.bl b, μ) | none => .no) = _; rw [show kitB "bool" "dict" = some false by decide +kernel])
theorem isi_dict_int {μ : Mu} {i : Int} : dIsi "dict" (.int i) μ = .ok (.bl false, μ) := by first | rfl | (show (match kitB "int" "dict" with | some b => Res.ok (D.bl b, μ) | none => .no) = _; rw [show kitB "int" "dict" = some false by decide +kernel])
theorem isi_dict_str {μ : Mu} {x : List Nat} : dIsi "dict" (.str x) μ = .ok (.bl false, μ) := by first | rfl | (show (match kitB "str" "dict" with | some b => Res.ok (D.bl b, μ) | none => .no) = _; rw [show kitB "str" "dict" = some false by decide +kernel])
theorem isi_dict_tup {μ : Mu} {ds : List D} : dIsi "dict" (.tup ds) μ = .ok (.bl false, μ) := by first | rfl | (show (match kitB "tuple" "dict" with | some b => Res.ok (D.bl b, μ) | none => .no) = _; rw [show kitB "tuple" "dict" = some false by decide +kernel])
theorem isi_dict_lst {μ : Mu} {ds : List D} : dIsi "dict" (.lst ds) μ = .ok (.bl false, μ) := by first | rfl | (show (match kitB "list" "dict" with | some b => Res.ok (D.bl b, μ) | none => .no) = _; rw [show kitB "list" "dict" = some false by decide +kernel])
/-! methods -/
theorem isT_str {T : String} {x : List Nat} {μ : Mu} : isT T (.str x) μ = (T == "str") := rfl
theorem m_upper {x : List Nat} {μ : Mu} (h : x.length ≤ 5592405) (h2 : (x.all fun c => decide (c < 128)) = true) : mUpper (.str x) [] μ = .ok (.str (x.map upC), μ) := if_pos ⟨h, h2⟩
theorem m_lower {x : List Nat} {μ : Mu} (h : x.length ≤ 5592405) (h2 : (x.all fun c => decide (c < 128)) = true) : mLower (.str x) [] μ = .ok (.str (x.map loC), μ) := if_pos ⟨h, h2⟩
theorem m_lower1 {c : Nat} {μ : Mu} (h : c < 128) : mLower (.str [c]) [] μ = .ok (.str [loC c], μ) := if_pos ⟨by simp, by simpa using h⟩
theorem m_upper1 {c : Nat} {μ : Mu} (h : c < 128) : mUpper (.str [c]) [] μ = .ok (.str [upC c], μ) := if_pos ⟨by simp, by simpa using h⟩
theorem isT_s {x : List Nat} {μ : Mu} : isT "str" (.str x) μ = true := by show ("str" == "str") = true; exact beq_self_eq_true _
theorem isT_r {n : Nat} {ds : List D} {μ : Mu} (h : μ[n]? = some (.lst ds)) : isT "list" (.ref n) μ = true := by
  unfold isT lof
  simp only [h, Option.isSome_some, if_true, beq_self_eq_true]
theorem isT_d {n : Nat} {kvs : List (D × D)} {μ : Mu} (h : μ[n]? = some (.dic kvs)) : isT "dict" (.ref n) μ = true := by
  unfold isT lof dof
  simp only [h, Option.isSome_some, Option.isSome_none, if_true, Bool.false_eq_true, if_false, beq_self_eq_true]
theorem isT_dd {kvs : List (D × D)} {μ : Mu} : isT "dict" (.dic kvs) μ = true := by
  unfold isT lof dof
  simp only [Option.isSome_some, Option.isSome_none, if_true, Bool.false_eq_true, if_false, beq_self_eq_true]
theorem cast_lit {n : Nat} : ((OfNat.ofNat n : Nat) : Int) = (OfNat.ofNat n : Int) := rfl
/-- how a body ends -/
def ofOt : Option Ot → Res (D × Mu)
  | some (.rt d μ') => .ok (d, μ')
  | some (.nx _ μ') => .ok (.non, μ')
  | some (.xc c fs _ μ') => .ex c fs μ'
  | _ => .no
theorem bodyF_eq {n : Nat} {m : SM} {ds : List D} {μ : Mu} : bodyF n m ds μ = ofOt (m (ds.map some ++ List.replicate (n - ds.length) none) μ) := id rfl
theorem ofOt_rt {d μ} : ofOt (some (.rt d μ)) = .ok (d, μ) := id rfl
theorem ofOt_nx {e μ} : ofOt (some (.nx e μ)) = .ok (.non, μ) := id rfl
theorem ofOt_xc {c fs e μ} : ofOt (some (.xc c fs e μ)) = .ex c fs μ := id rfl
theorem ofOt_ite {p : Prop} [Decidable p] {a b : Option Ot} : ofOt (if p then a else b) = if p then ofOt a else ofOt b := by split <;> rfl
/-! ### loops -/
theorem forGo_inv {T : Tg} {b : SM} {ds : List D} {f : Nat} {e : Ev} {μ : Mu} (I : Nat → Ev → Mu → Prop) (h0 : I 0 e μ) (hf : ds.length < f)
    (step : ∀ (i : Nat) d e μ, ds[i]? = some d → I i e μ → ∃ e1, setT T d e = some e1 ∧ ∃ e2 μ2, (b e1 μ = some (.nx e2 μ2) ∨ b e1 μ = some (.ct e2 μ2)) ∧ I (i + 1) e2 μ2) :
    ∃ e2 μ2, forGo T b (.fix ds) f 0 e μ = some (.nx e2 μ2) ∧ I ds.length e2 μ2 := by
  have main : ∀ (n i f : Nat) (e : Ev) (μ : Mu), ds.length - i = n → i ≤ ds.length → ds.length - i < f → I i e μ → ∃ e2 μ2, forGo T b (.fix ds) f i e μ = some (.nx e2 μ2) ∧ I ds.length e2 μ2 := by
    intro n
    induction n with
    | zero =>
      intro i f e μ hn hi hf hI
      have : i = ds.length := by omega
      subst this
      obtain ⟨f, rfl⟩ : ∃ g, f = g + 1 := ⟨f - 1, by omega⟩
      exact ⟨e, μ, by simp [forGo, items], hI⟩
    | succ n ih =>
      intro i f e μ hn hi hf hI
      have hlt : i < ds.length := by omega
      obtain ⟨f, rfl⟩ : ∃ g, f = g + 1 := ⟨f - 1, by omega⟩
      have hd : ds[i]? = some ds[i] := List.getElem?_eq_getElem hlt
      obtain ⟨e1, h1, e2, μ2, h2, hI2⟩ := step i _ e μ hd hI
      obtain ⟨e3, μ3, h3, h4⟩ := ih (i + 1) f e2 μ2 (by omega) (by omega) (by omega) hI2
      refine ⟨e3, μ3, ?_, h4⟩
      unfold forGo
      simp only [items, hd, h1]
      rcases h2 with h2 | h2 <;> rw [h2] <;> exact h3
  exact main _ 0 f e μ rfl (Nat.zero_le _) (by simpa using hf) h0
theorem forGo_find {T : Tg} {b : SM} {ds : List D} {f : Nat} {e : Ev} {μ : Mu} (I : Nat → Ev → Mu → Prop) (R : D → Mu → Prop) (h0 : I 0 e μ) (hf : ds.length < f)
    (step : ∀ (i : Nat) d e μ, ds[i]? = some d → I i e μ → ∃ e1, setT T d e = some e1 ∧ ((∃ e2 μ2, (b e1 μ = some (.nx e2 μ2) ∨ b e1 μ = some (.ct e2 μ2)) ∧ I (i + 1) e2 μ2) ∨ ∃ v μ2, b e1 μ = some (.rt v μ2) ∧ R v μ2)) :
    (∃ e2 μ2, forGo T b (.fix ds) f 0 e μ = some (.nx e2 μ2) ∧ I ds.length e2 μ2) ∨ ∃ v μ2, forGo T b (.fix ds) f 0 e μ = some (.rt v μ2) ∧ R v μ2 := by
  have main : ∀ (n i f : Nat) (e : Ev) (μ : Mu), ds.length - i = n → i ≤ ds.length → ds.length - i < f → I i e μ → (∃ e2 μ2, forGo T b (.fix ds) f i e μ = some (.nx e2 μ2) ∧ I ds.length e2 μ2) ∨ ∃ v μ2, forGo T b (.fix ds) f i e μ = some (.rt v μ2) ∧ R v μ2 := by
    intro n
    induction n with
    | zero =>
      intro i f e μ hn hi hf hI
      have : i = ds.length := by omega
      subst this
      obtain ⟨f, rfl⟩ : ∃ g, f = g + 1 := ⟨f - 1, by omega⟩
      exact .inl ⟨e, μ, by simp [forGo, items], hI⟩
    | succ n ih =>
      intro i f e μ hn hi hf hI
      have hlt : i < ds.length := by omega
      obtain ⟨f, rfl⟩ : ∃ g, f = g + 1 := ⟨f - 1, by omega⟩
      have hd : ds[i]? = some ds[i] := List.getElem?_eq_getElem hlt
      obtain ⟨e1, h1, h⟩ := step i _ e μ hd hI
      rcases h with ⟨e2, μ2, h2, hI2⟩ | ⟨v, μ2, h2, hR⟩
      · have q := ih (i + 1) f e2 μ2 (by omega) (by omega) (by omega) hI2
        have e : forGo T b (.fix ds) (f + 1) i e μ = forGo T b (.fix ds) f (i + 1) e2 μ2 := by
          rw [forGo]
          simp only [items, hd, h1]
          rcases h2 with h2 | h2 <;> rw [h2]
        rw [e]
        exact q
      · refine .inr ⟨v, μ2, ?_, hR⟩
        unfold forGo
        simp only [items, hd, h1, h2]
  exact main _ 0 f e μ rfl (Nat.zero_le _) (by simpa using hf) h0
/-- a comprehension whose parts are known -/
theorem lcGo_map {T : Tg} {tst : MT} {elt : M} {ds ys : List D} {env : Ev} {f : Nat} {μ : Mu} (hf : ds.length < f) (hl : ds.length ≤ lineN) (hy : ys.length = ds.length)
    (h : ∀ (i : Nat) d, ds[i]? = some d → ∃ e1 y, setT T d env = some e1 ∧ tst e1 μ = .ok (true, μ) ∧ elt e1 μ = .ok (y, μ) ∧ ys[i]? = some y) : lcGo T tst elt (.fix ds) env f 0 [] μ = .ok (ys, μ) := by
  have main : ∀ (n i f : Nat), ds.length - i = n → i ≤ ds.length → ds.length - i < f → lcGo T tst elt (.fix ds) env f i (ys.take i) μ = .ok (ys, μ) := by
    intro n
    induction n with
    | zero =>
      intro i f hn hi hf
      have : i = ds.length := by omega
      subst this
      obtain ⟨f, rfl⟩ : ∃ g, f = g + 1 := ⟨f - 1, by omega⟩
      have : ys.take ds.length = ys := by rw [← hy]; exact List.take_length
      rw [this]
      simp [lcGo, items]
    | succ n ih =>
      intro i f hn hi hf
      have hlt : i < ds.length := by omega
      obtain ⟨f, rfl⟩ : ∃ g, f = g + 1 := ⟨f - 1, by omega⟩
      have hd : ds[i]? = some ds[i] := List.getElem?_eq_getElem hlt
      obtain ⟨e1, y, h1, h2, h3, h4⟩ := h i _ hd
      have q := ih (i + 1) f (by omega) (by omega) (by omega)
      rw [List.take_succ, h4] at q
      unfold lcGo
      simp only [items, hd, h1, h2, h3]
      rw [if_pos (by rw [List.length_take]; omega)]
      exact q
  simpa using main _ 0 f rfl (Nat.zero_le _) (by simpa using hf)
/-- .. with a test -/
theorem lcGo_filter {T : Tg} {tst : MT} {elt : M} {ds : List D} {env : Ev} {f : Nat} {μ : Mu} (p : D → Bool) (g : D → D) (hf : ds.length < f) (hl : ds.length ≤ lineN)
    (h : ∀ d ∈ ds, ∃ e1, setT T d env = some e1 ∧ tst e1 μ = .ok (p d, μ) ∧ (p d = true → elt e1 μ = .ok (g d, μ))) : lcGo T tst elt (.fix ds) env f 0 [] μ = .ok ((ds.filter p).map g, μ) := by
  have main : ∀ (n i f : Nat), ds.length - i = n → i ≤ ds.length → ds.length - i < f → lcGo T tst elt (.fix ds) env f i (((ds.take i).filter p).map g) μ = .ok ((ds.filter p).map g, μ) := by
    intro n
    induction n with
    | zero =>
      intro i f hn hi hf
      have : i = ds.length := by omega
      subst this
      obtain ⟨f, rfl⟩ : ∃ g, f = g + 1 := ⟨f - 1, by omega⟩
      rw [List.take_length]
      simp [lcGo, items]
    | succ n ih =>
      intro i f hn hi hf
      have hlt : i < ds.length := by omega
      obtain ⟨f, rfl⟩ : ∃ g, f = g + 1 := ⟨f - 1, by omega⟩
      have hd : ds[i]? = some ds[i] := List.getElem?_eq_getElem hlt
      obtain ⟨e1, h1, h2, h3⟩ := h _ (List.mem_of_getElem? hd)
      have q := ih (i + 1) f (by omega) (by omega) (by omega)
      have htk : ds.take (i + 1) = ds.take i ++ [ds[i]] := by rw [List.take_succ, hd]; rfl
      rw [htk, List.filter_append, List.map_append] at q
      unfold lcGo
      simp only [items, hd, h1, h2]
      cases hp : p ds[i] with
      | true =>
        simp only [h3 hp]
        have hlen : (((ds.take i).filter p).map g).length < lineN := by
          rw [List.length_map]
          refine Nat.lt_of_le_of_lt (List.length_filter_le _ _) ?_
          rw [List.length_take]; omega
        rw [if_pos hlen]
        have e0 : ([ds[i]].filter p).map g = [g ds[i]] := by simp [hp]
        rw [e0] at q
        exact q
      | false =>
        have e0 : ([ds[i]].filter p).map g = [] := by simp [hp]
        rw [e0, List.append_nil] at q
        exact q
  simpa using main _ 0 f rfl (Nat.zero_le _) (by simpa using hf)
theorem range_get {lo : Int} {n i : Nat} {d : D} (h : (rangeD lo n)[i]? = some d) : i < n ∧ d = .int (lo + i) := by
  unfold rangeD at h
  rw [List.getElem?_map] at h
  by_cases hi : i < n
  · rw [List.getElem?_range hi] at h
    cases h
    exact ⟨hi, rfl⟩
  · rw [List.getElem?_eq_none (by simp; omega)] at h
    cases h
theorem rangeD_len {lo : Int} {n : Nat} : (rangeD lo n).length = n := by simp [rangeD]
end Lr

/-! Lr, part 16: range with a step. -/
namespace Lr
open PySem L2
def rangeC (lo c : Int) (n : Nat) : List D := (List.range n).map fun i => .int (lo + (i : Nat) * c)
def iRange3 (ms : MA) : MI := fun e μ => (ms e μ).bind fun x => match x.1 with
  | [.int i, .int j, .int c] => if c ≠ 0 ∧ c.natAbs < 1073741824 ∧ Builtin.Range.small i j c = true then .ok (.fix (rangeC i c (Builtin.Range.rangeSize i j c).toNat), x.2) else .no
  | _ => .no
theorem src_rangeC {t : Ct} {G H : Hp} {ρ : List Addr} {lo c : Int} {n : Nat} : SrcOk t G ρ H (.fix (rangeC lo c n)) (Itc lo c n) := by
  intro i G1 ρ1 env1 μ1 σ1 H1 xs e R h
  cases h
  unfold rangeC
  refine ⟨fun d hd => ?_, fun hn => ?_⟩
  · rw [List.getElem?_map] at hd
    by_cases hi : i < n
    · rw [List.getElem?_range hi] at hd
      cases hd
      exact ⟨hi, fun x H2 ⟨e1, e2⟩ => by subst e1; exact ⟨G1, .refl, R, e2⟩⟩
    · rw [List.getElem?_eq_none (by simp; omega)] at hd
      cases hd
  · have := List.getElem?_eq_none_iff.mp hn
    simp at this
    exact this
theorem rgn (a b c : Int) : Builtin.Range.rangeSize a b c = ((Builtin.Range.rangeSize a b c).toNat : Int) := by
  have hpos : 0 ≤ Builtin.Range.rangeSize a b c := by
    unfold Builtin.Range.rangeSize
    split <;> split <;> first | omega | (have := Int.ediv_nonneg (a := b - a - 1) (b := c) (by omega) (by omega); omega) | (have := Int.ediv_nonneg (a := a - b - 1) (b := -c) (by omega) (by omega); omega)
  omega
section
variable {nm : Nm} {X : Cx} {W : XW} {a b c tg : Expr} {pos p : Pos}
theorem iv_range3 {ms : MA} (ha : AV nm X W [a, b, c] ms) (hg : Gl X "range" := by rfl) (hm : X.mg "range" = none := by assumption) (hs : starEach [a, b, c] X.env = (false, eval a X.env) :: starEach [b, c] X.env := by rfl) (hpl : (backTo pos (starEach [b, c] X.env)).any (·.1) = false := by rfl) :
    IV nm X W tg (.Call (.Name "range" p) [a, b, c] [] pos) (iRange3 ms) :=
  ⟨fun env μ σ H ρ G R0 R P => to_i (pi_range3 hg hm pa_wp hs hpl) (by
  refine ha.run env μ σ H ρ G _ R ((Po.bind P).imp (fun x hx vs H1 ρ1 G1 e1 R1 r => ?_) fun _ _ _ h => h)
  obtain ⟨ds, μ1⟩ := x
  dsimp only at hx
  split at hx
  · split at hx
    · rename_i i j k hz
      obtain ⟨v, r0, rfl, rv, w, r1, rfl, rw', u, r2, rfl, ru, hr⟩ := r
      cases rv
      cases rw'
      cases ru
      cases hr
      exact ⟨i, j, k, _, rfl, ⟨hz.1, hz.2.1, hz.2.2, rgn i j k⟩, hx _ H1 ρ1 G1 e1 R1 src_rangeC⟩
    · exact hx.elim
  · exact hx.elim)⟩
end
def kR3 (ra : Res (List D × Mu)) : Res (Src × Mu) := ra.bind fun x => match x.1 with
  | [.int i, .int j, .int c] => if c ≠ 0 ∧ c.natAbs < 1073741824 ∧ Builtin.Range.small i j c = true then .ok (.fix (rangeC i c (Builtin.Range.rangeSize i j c).toNat), x.2) else .no
  | _ => .no
theorem e_range3 {ms : MA} {e : Ev} {μ : Mu} : iRange3 ms e μ = kR3 (ms e μ) := id rfl
/-- up from 0 -/
theorem e_range3' {n c : Nat} {μ : Mu} (h0 : 0 < c) (h1 : c < 1000) (h2 : n * c < 100000) : kR3 (.ok ([.int 0, .int ((n * c : Nat) : Int), .int (c : Int)], μ)) = .ok (.fix (rangeC 0 c n), μ) := by
  have hs : Builtin.Range.rangeSize 0 ((n * c : Nat) : Int) (c : Int) = n := by
    unfold Builtin.Range.rangeSize
    rw [if_pos (by omega)]
    by_cases hn : n = 0
    · subst hn; simp
    · have h3 : 0 < n * c := Nat.mul_pos (by omega) h0
      rw [if_pos (by omega)]
      have e1 : ((n * c : Nat) : Int) - 0 - 1 = ((c : Int) - 1) + ((n : Int) - 1) * c := by
        push_cast
        rw [Int.sub_mul]; omega
      rw [e1, Int.add_mul_ediv_right _ _ (by omega), Int.ediv_eq_zero_of_lt (by omega) (by omega)]
      omega
  have hz : Builtin.Range.small 0 ((n * c : Nat) : Int) (c : Int) = true := by
    unfold Builtin.Range.small
    rw [hs]
    have h4 : n ≤ n * c := Nat.le_mul_of_pos_right n h0
    generalize n * c = m at *
    simp only [Builtin.Range.rangeFitsLong, Bool.and_eq_true, Bool.or_eq_true, decide_eq_true_eq, beq_iff_eq]
    split <;> simp only [Bool.and_eq_true, decide_eq_true_eq] <;> omega
  show (if _ then _ else _) = _
  rw [if_pos ⟨by omega, by omega, hz⟩, hs]
  rfl
theorem rangeC_len {lo c : Int} {n : Nat} : (rangeC lo c n).length = n := by simp [rangeC]
theorem rangeC_get {lo c : Int} {n i : Nat} {d : D} (h : (rangeC lo c n)[i]? = some d) : i < n ∧ d = .int (lo + i * c) := by
  unfold rangeC at h
  rw [List.getElem?_map] at h
  by_cases hi : i < n
  · rw [List.getElem?_range hi] at h
    cases h
    exact ⟨hi, rfl⟩
  · rw [List.getElem?_eq_none (by simp; omega)] at h
    cases h
end Lr

/-! Lr, part 17: cells of the store, evaluated; pure calls with lists; texts and truths of lists. -/
namespace Lr
open PySem L2
section
variable {μ : Mu} {n : Nat} {i j : Int} {x : List Nat} {xs ds : List D} {y d : D} {e : Ev} {fl : Bool} {k : Nat}
def kApp (o : Option D) (n : Nat) (y : D) (μ : Mu) : Res (D × Mu) := match o with
  | some (.lst xs) => if xs.length < lineN then .ok (.non, μ.set n (.lst (xs ++ [y]))) else .no
  | _ => .no
theorem m_append : mAppend (.ref n) [y] μ = kApp (μ[n]?) n y μ := by
  unfold mAppend lst1 kApp
  try dsimp only
  all_goals (split <;> simp_all)
theorem kApp1 (h : xs.length < lineN) : kApp (some (.lst xs)) n y μ = .ok (.non, μ.set n (.lst (xs ++ [y]))) := if_pos h
def kLen (o : Option D) (μ : Mu) : Res (D × Mu) := match o with
  | some (.lst xs) => .ok (.int xs.length, μ)
  | some (.dic xs) => .ok (.int xs.length, μ)
  | some (.dit xs) => .ok (.int xs.length, μ)
  | _ => .no
theorem d_lenR : dLen [.ref n] μ = kLen (μ[n]?) μ := by
  unfold dLen kLen lof dof
  dsimp only
  cases μ[n]? with
  | none => rfl
  | some o => cases o <;> rfl
theorem kLen1 : kLen (some (.lst xs)) μ = .ok (.int xs.length, μ) := id rfl
def kIx (o : Option D) (i : Int) (μ : Mu) : Res (D × Mu) := dIx (match o with | some (.lst xs) => .lst xs | _ => .non) (.int i) μ
theorem kIx1 (h0 : 0 ≤ i) (h1 : i < xs.length) : kIx (some (.lst xs)) i μ = .ok (xs.getD i.toNat .non, μ) := d_ixL h0 h1
theorem d_ixR (h : μ[n]? = some (.lst xs)) (h0 : 0 ≤ i) (h1 : i < xs.length) : dIx (.ref n) (.int i) μ = .ok (xs.getD i.toNat .non, μ) := by
  have : i.toNat < xs.length := by omega
  unfold dIx
  simp [lof, h, atI_pos h0 h1, this]
def kSl (o : Option D) (fl : Bool) (lo hi : Option Int) (μ : Mu) : Res (D × Mu) := match o with
  | some (.lst ds) => .ok (mkL fl (cutL ds lo hi) μ)
  | _ => .no
theorem d_slR {lo hi : Option Int} : dSl fl (.ref n) lo hi μ = kSl (μ[n]?) fl lo hi μ := by
  unfold dSl kSl lof
  dsimp only
  cases μ[n]? with
  | none => rfl
  | some o => cases o <;> rfl
theorem kSl1 {lo hi : Option Int} : kSl (some (.lst ds)) fl lo hi μ = .ok (mkL fl (cutL ds lo hi) μ) := id rfl
def kSt (o : Option D) (n : Nat) (i : Int) (x : D) (e : Ev) (μ : Mu) : Option Ot := match o with
  | some (.lst ds) => if 0 ≤ i ∧ i < ds.length then some (.nx e (μ.set n (.lst (ds.set i.toNat x)))) else none
  | _ => none
theorem e_sub3L (h : μ[n]? = some (.lst ds)) (h0 : 0 ≤ i) (h1 : i < ds.length) : kSub3 (.ok (.int i, μ)) e y (.ref n) = some (.nx e (μ.set n (.lst (ds.set i.toNat y)))) := by
  refine e_sub3 ?_
  unfold dSet
  simp only [h]
  unfold ixN
  rw [if_pos h0, if_pos h1]
theorem d_pow (h0 : 0 ≤ j) (h1 : j ≤ 1000000) (h2 : i.natAbs < 2 ^ 64) : dPow (.int i) (.int j) μ = .ok (.int (i ^ j.toNat), μ) := if_pos ⟨h0, h1, h2⟩
theorem d_pow1020 : dPow (.int 10) (.int 20) μ = .ok (.int 100000000000000000000, μ) := by rw [d_pow (by decide) (by decide) (by decide)]; rfl
theorem d_mulS {k : Int} (h0 : 0 ≤ k) (h1 : k < 1000000) (h2 : x.length * k.toNat ≤ lineN) : dMul fl (.str x) (.int k) μ = .ok (.str (List.replicate k.toNat x).flatten, μ) := if_pos ⟨by omega, by omega, h2⟩
theorem d_intB {b : Bool} : dInt [.bl b] μ = .ok (.int (if b then 1 else 0), μ) := id rfl
theorem d_intI : dInt [.int i] μ = .ok (.int i, μ) := id rfl
theorem d_max2 : dMax2 [.int i, .int j] μ = .ok (.int (max i j), μ) := id rfl
theorem d_min2 : dMin2 [.int i, .int j] μ = .ok (.int (min i j), μ) := id rfl
theorem d_tupleL : dTuple [.lst xs] μ = .ok (.tup xs, μ) := id rfl
theorem d_tupleT : dTuple [.tup xs] μ = .ok (.tup xs, μ) := id rfl
theorem d_listT : dList fl [.tup xs] μ = .ok (mkL fl xs μ) := id rfl
theorem d_listL : dList fl [.lst xs] μ = .ok (mkL fl xs μ) := id rfl
theorem d_fldO {c : Nat} : dFld c k (.obj c ds) μ = (match ds[k]? with | some x => .ok (x, μ) | none => .no) := by
  unfold dFld oof
  simp only [if_true]
  all_goals rfl
theorem bsOf_map {bs : List Bool} : bsOf (bs.map D.bl) = some bs := by
  induction bs with
  | nil => rfl
  | cons b r ih => rw [List.map_cons]; unfold bsOf; rw [ih]; rfl
theorem strsOf_map {zs : List (List Nat)} : strsOf (zs.map D.str) = some zs := by
  induction zs with
  | nil => rfl
  | cons b r ih => rw [List.map_cons]; unfold strsOf; rw [ih]; rfl
theorem d_bools {f : List Bool → Bool} {bs : List Bool} : dBools f [.lst (bs.map D.bl)] μ = .ok (.bl (f bs), μ) := by
  unfold dBools lof
  simp only [bsOf_map]
theorem joinL_nil : ∀ zs : List (List Nat), joinL [] zs = zs.flatten := by
  intro zs
  induction zs with
  | nil => rfl
  | cons z r ih =>
    cases r with
    | nil => simp [joinL]
    | cons w r => show z ++ [] ++ joinL [] (w :: r) = _; rw [ih]; simp
theorem m_joinL {zs : List (List Nat)} (h : (zs.map List.length).sum ≤ lineN) : mJoin (.str []) [.lst (zs.map D.str)] μ = .ok (.str zs.flatten, μ) := by
  unfold mJoin seqD lof
  simp only [strsOf_map, List.length_nil, Nat.mul_zero, Nat.add_zero, joinL_nil]
  rw [if_pos h]
theorem m_joinT {zs : List (List Nat)} (h : (zs.map List.length).sum ≤ lineN) : mJoin (.str []) [.tup (zs.map D.str)] μ = .ok (.str zs.flatten, μ) := by
  unfold mJoin seqD
  simp only [strsOf_map, List.length_nil, Nat.mul_zero, Nat.add_zero, joinL_nil]
  rw [if_pos h]
/-! lists of signs -/
def sgs (z : List Nat) : List (List Nat) := z.map fun c => [c]
theorem sgs_flat (z : List Nat) : (sgs z).flatten = z := by
  induction z with
  | nil => rfl
  | cons a r ih => unfold sgs at ih ⊢; rw [List.map_cons, List.flatten_cons, ih]; rfl
theorem sgs_sum (z : List Nat) : ((sgs z).map List.length).sum = z.length := by
  induction z with
  | nil => rfl
  | cons a r ih => unfold sgs at ih ⊢; rw [List.map_cons, List.map_cons, List.sum_cons, ih]; simp; omega
def chL (z : List Nat) : List D := z.map fun c => D.str [c]
theorem chL_sgs (z : List Nat) : chL z = (sgs z).map D.str := by unfold chL sgs; rw [List.map_map]; rfl
theorem chL_len (z : List Nat) : (chL z).length = z.length := List.length_map ..
theorem m_joinC {z : List Nat} (h : z.length ≤ lineN) : mJoin (.str []) [.lst (chL z)] μ = .ok (.str z, μ) := by
  rw [chL_sgs, m_joinL (by rw [sgs_sum]; exact h), sgs_flat]
theorem chL_app (z : List Nat) (c : Nat) : chL z ++ [.str [c]] = chL (z ++ [c]) := by unfold chL; rw [List.map_append]; rfl
theorem nrs_chL {z : List Nat} : nrs (chL z) = true := nrs_map fun _ _ => rfl
theorem pds_chL {z : List Nat} : pds k (chL z) = true := pds_map fun _ _ => pd_str
theorem cutL_nat {α : Type} {zs : List α} {a b : Nat} (hb : a ≤ b) (hl : b ≤ zs.length) : cutL zs (some (a : Int)) (some (b : Int)) = (zs.drop a).take (b - a) := by
  unfold cutL
  rw [HT.sIx_nat, HT.sIx_nat, Nat.min_eq_left hl, Nat.min_eq_left (Nat.le_trans hb hl)]
theorem cutL_from {α : Type} {zs : List α} {a : Nat} : cutL zs (some (a : Int)) none = zs.drop a := by
  unfold cutL
  rw [HT.sIx_nat, HT.sIx_none]
  by_cases h : a ≤ zs.length
  · rw [Nat.min_eq_left h, List.take_of_length_le (by rw [List.length_drop]; omega)]
  · rw [Nat.min_eq_right (by omega), List.drop_eq_nil_of_le (by omega), List.drop_eq_nil_of_le (by omega)]; simp
theorem cutL_to {α : Type} {zs : List α} {b : Nat} : cutL zs none (some (b : Int)) = zs.take b := by
  unfold cutL
  rw [HT.sIx_nat, HT.sIx_none, List.drop_zero, Nat.sub_zero]
  by_cases h : b ≤ zs.length
  · rw [Nat.min_eq_left h]
  · rw [Nat.min_eq_right (by omega), List.take_of_length_le (by omega), List.take_of_length_le (by omega)]
/-! frozen copies -/
theorem mapO_id {α : Type} {f : α → Option α} : ∀ {zs : List α}, (∀ z ∈ zs, f z = some z) → mapO f zs = some zs
  | [], _ => rfl
  | z :: r, h => by
    unfold mapO
    rw [h z (by simp), mapO_id (zs := r) fun w hw => h w (by simp [hw])]
theorem pds_mem {ds : List D} (h : pds k ds = true) : ∀ d ∈ ds, pd k d = true := by
  induction ds with
  | nil => intro d h; simp at h
  | cons a r ih =>
    rw [pds_cons, Bool.and_eq_true] at h
    intro d hd
    rcases List.mem_cons.mp hd with e | e
    · rw [e]; exact h.1
    · exact ih h.2 d e
theorem inl_pd {m : Nat} : ∀ {k : Nat} {d : D}, pd k d = true → k < m → inl true μ m d = some d := by
  induction m with
  | zero => intro k d h hk; omega
  | succ m ih =>
    intro k d h hk
    have go : ∀ {k : Nat} {ds : List D}, pds k ds = true → k < m → mapO (inl true μ m) ds = some ds := fun hp hm => mapO_id fun z hz => ih (pds_mem hp z hz) hm
    cases d with
    | tup ds => cases k with
      | zero => simp [pd] at h
      | succ k => show (mapO (inl true μ m) ds).map _ = _; rw [go (by simpa [pd] using h) (by omega)]; rfl
    | lst ds => cases k with
      | zero => simp [pd] at h
      | succ k => show (if _ then (mapO (inl true μ m) ds).map _ else _) = _; rw [if_pos rfl, go (by simpa [pd] using h) (by omega)]; rfl
    | scr ds => cases k with
      | zero => simp [pd] at h
      | succ k => show (if _ then (mapO (inl true μ m) ds).map _ else _) = _; rw [if_pos rfl, go (by simpa [pd] using h) (by omega)]; rfl
    | dic _ => cases k <;> simp [pd] at h
    | dit _ => cases k <;> simp [pd] at h
    | obj _ _ => cases k <;> simp [pd] at h
    | ref _ => cases k <;> simp [pd] at h
    | _ => rfl
mutual
/-- data of tuples alone -/
def tpd : Nat → D → Bool
  | _, .non => true | _, .bl _ => true | _, .int _ => true | _, .str _ => true
  | k, .tup ds => match k with | 0 => false | k + 1 => tpds k ds
  | _, _ => false
def tpds : Nat → List D → Bool
  | _, [] => true
  | k, d :: ds => tpd k d && tpds k ds
end
theorem tpds_nil : tpds k [] = true := by cases k <;> rfl
theorem tpds_cons : tpds k (d :: ds) = (tpd k d && tpds k ds) := by cases k <;> rfl
theorem tpds_mem {ds : List D} (h : tpds k ds = true) : ∀ d ∈ ds, tpd k d = true := by
  induction ds with
  | nil => intro d h; simp at h
  | cons a r ih =>
    rw [tpds_cons, Bool.and_eq_true] at h
    intro d hd
    rcases List.mem_cons.mp hd with e | e
    · rw [e]; exact h.1
    · exact ih h.2 d e
theorem tpd_str {x : List Nat} : tpd k (.str x) = true := by cases k <;> rfl
theorem tpd_int {i : Int} : tpd k (.int i) = true := by cases k <;> rfl
theorem tpds_map {α : Type} {f : α → D} {xs : List α} (h : ∀ a ∈ xs, tpd k (f a) = true) : tpds k (xs.map f) = true := by
  induction xs with
  | nil => exact tpds_nil
  | cons a r ih => rw [List.map_cons, tpds_cons, h a (by simp), ih fun b hb => h b (by simp [hb])]; rfl
theorem inl_tpd {al : Bool} {m : Nat} : ∀ {k : Nat} {d : D}, tpd k d = true → k < m → inl al μ m d = some d := by
  induction m with
  | zero => intro k d h hk; omega
  | succ m ih =>
    intro k d h hk
    cases d with
    | tup ds => cases k with
      | zero => simp [tpd] at h
      | succ k => show (mapO (inl al μ m) ds).map _ = _; rw [mapO_id fun z hz => ih (tpds_mem (by simpa [tpd] using h) z hz) (by omega)]; rfl
    | lst ds => cases k <;> simp [tpd] at h
    | scr ds => cases k <;> simp [tpd] at h
    | dic _ => cases k <;> simp [tpd] at h
    | dit _ => cases k <;> simp [tpd] at h
    | obj _ _ => cases k <;> simp [tpd] at h
    | ref _ => cases k <;> simp [tpd] at h
    | _ => rfl
theorem vf_tpd (h : tpd 10 d = true) : vf μ d = some d := by
  unfold vf
  split
  · rfl
  · exact inl_tpd h (by omega)
theorem pd_nr : ∀ {k : Nat} {d : D}, pd k d = true → nr d = true := by
  intro k
  induction k with
  | zero => intro d h; cases d <;> simp [pd] at h <;> rfl
  | succ k ih =>
    have go : ∀ {ds : List D}, pds k ds = true → nrs ds = true := by
      intro ds
      induction ds with
      | nil => intro _; rfl
      | cons a r ih2 =>
        intro h
        rw [pds_cons, Bool.and_eq_true] at h
        rw [nrs_cons, ih h.1, ih2 h.2]; rfl
    intro d h
    cases d with
    | tup ds => exact go (by simpa [pd] using h)
    | lst ds => exact go (by simpa [pd] using h)
    | scr ds => exact go (by simpa [pd] using h)
    | dic _ => simp [pd] at h
    | dit _ => simp [pd] at h
    | obj _ _ => simp [pd] at h
    | ref _ => simp [pd] at h
    | _ => rfl
theorem pds_nrs : ∀ {ds : List D}, pds k ds = true → nrs ds = true := by
  intro ds
  induction ds with
  | nil => intro _; rfl
  | cons a r ih =>
    intro h
    rw [pds_cons, Bool.and_eq_true] at h
    rw [nrs_cons, pd_nr h.1, ih h.2]; rfl
theorem vw_lst {μ' : Mu} (h : μ'[n]? = some (.lst xs)) (hp : pds 10 xs = true) : vw μ' (.ref n) = some (.lst xs) := by
  unfold vw
  rw [if_neg (by simp [nr])]
  show inl true μ' (11 + 1) (.ref n) = _
  rw [inl]
  simp only [h]
  rw [mapO_id fun z hz => inl_pd (pds_mem hp z hz) (by omega)]; rfl
/-- a call whose answer is a new list -/
theorem pureC_lst {F : GF} {as : List D} {μ' : Mu} (h : F as [] = .ok (.ref n, μ')) (h1 : nrs as = true) (h2 : μ'[n]? = some (.lst xs)) (h3 : pds 10 xs = true) : pureC F as μ = .ok (.lst xs, μ) := pureC_ok h h1 (vw_lst h2 h3)
theorem pureP_lst {F : GF} {as : List D} {μ' : Mu} (h : F as [] = .ok (.ref n, μ')) (h1 : nrs as = true) (h2 : μ'[n]? = some (.lst xs)) (h3 : pds 10 xs = true) : pureP F as μ = .ok (.ref μ.length, μ ++ [.lst xs]) := by
  unfold pureP
  rw [if_pos h1, h]
  unfold retP
  simp only [h2]
  rw [if_pos (pds_nrs h3)]
/-- a call that is handed lists of the store -/
theorem pureC_vw {F : GF} {as as' : List D} {μ' : Mu} (h0 : nrs as = false) (h1 : vws μ as = some as') (h : F as' [] = .ok (d, μ')) (h2 : tpd 10 d = true) : pureC F as μ = .ok (d, μ) := by
  unfold pureC
  rw [h0, h1]
  simp only [Bool.false_eq_true, if_false, h]
  unfold retW
  simp only [vf_tpd h2]
theorem vw_nr (h : nr d = true) : vw μ d = some d := if_pos h
theorem vws_nil : vws μ [] = some [] := rfl
theorem vws_cons {d' : D} {as as' : List D} (h : vw μ d = some d') (h2 : vws μ as = some as') : vws μ (d :: as) = some (d' :: as') := by unfold vws; rw [h, h2]
/-- a new instance -/
theorem makeF_ok {c : Nat} {F : GF} {as fs : List D} (h0 : nrs as = true) (h : F (.ref 0 :: as) [.obj c []] = .ok (.non, [.obj c fs])) (h3 : pds 10 fs = true) : makeF c F as μ = .ok (.obj c fs, μ) := by
  unfold makeF
  rw [if_pos h0, h]
  dsimp only
  have : inl true [D.obj c fs] 12 (.ref 0) = some (.obj c fs) := by
    show (mapO (inl true [D.obj c fs] 11) fs).map (D.obj c) = _
    rw [mapO_id fun z hz => inl_pd (pds_mem h3 z hz) (by omega)]; rfl
  rw [this]
theorem e_fl2' {m c j : Nat} {o : Option D} (h : μ[m]? = some (.obj c ds)) (hj : j = ds.length) : kFl2 (.ok (.ref m, μ)) e c y j = some (.nx e (μ.set m (.obj c (ds ++ [y])))) := by
  refine e_fl2 h ?_
  unfold setF
  rw [if_neg (by omega), if_pos hj]
end
/-! data that are compared -/
theorem beqD_str {x y : List Nat} : beqD (.str x) (.str y) = decide (x = y) := by unfold beqD; simp only [toP, PyData.eqv]; rw [beq_S]
theorem beqD_int {i j : Int} : beqD (.int i) (.int j) = decide (i = j) := by unfold beqD; simp only [toP, PyData.eqv]; rw [Bool.beq_eq_decide_eq]
theorem beqD_strs {xs ys : List (List Nat)} : beqD (.tup (xs.map D.str)) (.tup (ys.map D.str)) = decide (xs = ys) := by
  unfold beqD
  show PyData.eqvAll (toPs (xs.map D.str)) (toPs (ys.map D.str)) = _
  induction xs generalizing ys with
  | nil => cases ys with
    | nil => rfl
    | cons b r => rfl
  | cons a l ih =>
    cases ys with
    | nil => rfl
    | cons b r =>
      simp only [List.map_cons, toPs, PyData.eqvAll]
      rw [ih]
      have : PyData.eqv (toP (.str a)) (toP (.str b)) = decide (a = b) := beqD_str
      rw [this]
      by_cases h1 : a = b <;> by_cases h2 : l = r <;> simp [h1, h2]
/-- one turn's value of a comprehension over data -/
theorem lcGo_of {α : Type} {T : Tg} {elt : M} {xs : List α} {f g : α → D} {env : Ev} {μ : Mu} {fu : Nat} (hf : xs.length < fu) (hl : xs.length ≤ lineN) (h : ∀ a ∈ xs, ∃ e1, setT T (f a) env = some e1 ∧ elt e1 μ = .ok (g a, μ)) :
    lcGo T tTrue elt (.fix (xs.map f)) env fu 0 [] μ = .ok (xs.map g, μ) := by
  refine lcGo_map (by rw [List.length_map]; exact hf) (by rw [List.length_map]; exact hl) (by rw [List.length_map, List.length_map]) fun i d hd => ?_
  rw [List.getElem?_map] at hd
  cases hq : xs[i]? with
  | none => rw [hq] at hd; cases hd
  | some a =>
    rw [hq] at hd; cases hd
    obtain ⟨e1, h1, h2⟩ := h a (List.mem_of_getElem? hq)
    exact ⟨e1, g a, h1, rfl, h2, by rw [List.getElem?_map, hq]; rfl⟩
theorem lcGo_rc {T : Tg} {elt : M} {lo c : Int} {n : Nat} {g : Nat → D} {env : Ev} {μ : Mu} {fu : Nat} (hf : n < fu) (hl : n ≤ lineN) (h : ∀ a, a < n → ∃ e1, setT T (.int (lo + a * c)) env = some e1 ∧ elt e1 μ = .ok (g a, μ)) :
    lcGo T tTrue elt (.fix (rangeC lo c n)) env fu 0 [] μ = .ok ((List.range n).map g, μ) :=
  lcGo_of (xs := List.range n) (f := fun i => .int (lo + (i : Nat) * c)) (by rw [List.length_range]; exact hf) (by rw [List.length_range]; exact hl) fun a ha => h a (List.mem_range.mp ha)
theorem lcGo_r {T : Tg} {elt : M} {lo : Int} {n : Nat} {g : Nat → D} {env : Ev} {μ : Mu} {fu : Nat} (hf : n < fu) (hl : n ≤ lineN) (h : ∀ a, a < n → ∃ e1, setT T (.int (lo + a)) env = some e1 ∧ elt e1 μ = .ok (g a, μ)) :
    lcGo T tTrue elt (.fix (rangeD lo n)) env fu 0 [] μ = .ok ((List.range n).map g, μ) :=
  lcGo_of (xs := List.range n) (f := fun i => .int (lo + (i : Nat))) (by rw [List.length_range]; exact hf) (by rw [List.length_range]; exact hl) fun a ha => h a (List.mem_range.mp ha)
theorem len_lt {a : Nat} (h : a < 16777216) : a < lineN := h
def kFlo (o : Option D) (m : Nat) (e : Ev) (c : Nat) (y : D) (j : Nat) (μ : Mu) : Option Ot := match o with
  | some (.obj c' ds) => if c' = c then (setF j y ds).map fun ds' => .nx e (μ.set m (.obj c ds')) else none
  | _ => none
theorem e_flO {m c j : Nat} {y : D} {e : Ev} {μ : Mu} : kFl2 (.ok (.ref m, μ)) e c y j = kFlo (μ[m]?) m e c y j μ := by
  unfold kFl2 kFlo
  rw [eThen_ok]
  all_goals try dsimp only
  all_goals cases μ[m]? with
  | none => rfl
  | some d => cases d <;> rfl
theorem kFlo1 {m c j : Nat} {y : D} {e : Ev} {μ : Mu} {ds : List D} (hj : j = ds.length) : kFlo (some (.obj c ds)) m e c y j μ = some (.nx e (μ.set m (.obj c (ds ++ [y])))) := by
  unfold kFlo setF
  dsimp only
  rw [if_pos rfl, if_neg (by omega), if_pos hj]; rfl
theorem cast2 : ((2 : Nat) : Int) = 2 := id rfl
theorem cast3 : ((3 : Nat) : Int) = 3 := id rfl
theorem cast4 : ((4 : Nat) : Int) = 4 := id rfl
theorem cast5 : ((5 : Nat) : Int) = 5 := id rfl
theorem cast6 : ((6 : Nat) : Int) = 6 := id rfl
theorem cast7 : ((7 : Nat) : Int) = 7 := id rfl
theorem cast8 : ((8 : Nat) : Int) = 8 := id rfl
theorem cast9 : ((9 : Nat) : Int) = 9 := id rfl
theorem cast10 : ((10 : Nat) : Int) = 10 := id rfl
theorem cast11 : ((11 : Nat) : Int) = 11 := id rfl
theorem cast12 : ((12 : Nat) : Int) = 12 := id rfl
theorem d_isB {a b : Bool} {μ : Mu} : dIs (.bl a) (.bl b) μ = .ok (.bl (decide (a = b)), μ) := id rfl
theorem d_isNotB {a b : Bool} {μ : Mu} : dIsNot (.bl a) (.bl b) μ = .ok (.bl (!decide (a = b)), μ) := id rfl
def kAs (o : Option Ev) (μ : Mu) : Option Ot := match o with
  | some e => some (.nx e μ)
  | none => none
theorem e_asg2 {x : D} {μ : Mu} {e : Ev} {T : Tg} : kAsg (.ok (x, μ)) e T = kAs (setT T x e) μ := by
  unfold kAsg kAs
  rw [eThen_ok]
  cases setT T x e <;> rfl
theorem kAs1 {μ : Mu} {e : Ev} : kAs (some e) μ = some (.nx e μ) := id rfl
def kTs (o : Option Ev) (ts : List Tg) (ds : List D) : Option Ev := match o with
  | some e' => setTs ts ds e'
  | none => none
theorem setT_tp {ts : List Tg} {ds : List D} {e : Ev} : setT (.tp ts) (.tup ds) e = setTs ts ds e := by rw [setT]
theorem setTs_cons {t : Tg} {ts : List Tg} {d : D} {ds : List D} {e : Ev} : setTs (t :: ts) (d :: ds) e = kTs (setT t d e) ts ds := by
  rw [setTs]
  unfold kTs
  cases setT t d e <;> rfl
theorem setTs_nil {e : Ev} : setTs [] [] e = some e := by rw [setTs]
theorem kTs1 {ts : List Tg} {ds : List D} {e : Ev} : kTs (some e) ts ds = setTs ts ds e := id rfl
theorem getD_map {α : Type} {f : α → D} {xs : List α} {i : Nat} {a : α} (h : i < xs.length) : (xs.map f).getD i .non = f (xs.getD i a) := by
  simp [List.getD, List.getElem?_map, List.getElem?_eq_getElem h]
end Lr

/-! Lr, part 18: while loops whose turns are known. -/
namespace Lr
open PySem L2
theorem whGo_run {c : MT} {b : SM} (N : Nat) (E : Nat → Ev) (μ : Mu) (ht : ∀ k, k < N → c (E k) μ = .ok (true, μ) ∧ b (E k) μ = some (.nx (E (k + 1)) μ)) (hN : c (E N) μ = .ok (false, μ)) {f : Nat} (hf : N < f) :
    whGo c b f (E 0) μ = some (.nx (E N) μ) := by
  have main : ∀ (n i f : Nat), N - i = n → i ≤ N → N - i < f → whGo c b f (E i) μ = some (.nx (E N) μ) := by
    intro n
    induction n with
    | zero =>
      intro i f hn hi hf
      have : i = N := by omega
      subst this
      obtain ⟨f, rfl⟩ : ∃ g, f = g + 1 := ⟨f - 1, by omega⟩
      unfold whGo
      simp only [hN, eThen_ok, Bool.false_eq_true, if_false]
    | succ n ih =>
      intro i f hn hi hf
      obtain ⟨f, rfl⟩ : ∃ g, f = g + 1 := ⟨f - 1, by omega⟩
      obtain ⟨h1, h2⟩ := ht i (by omega)
      unfold whGo
      simp only [h1, h2, eThen_ok, if_true]
      exact ih (i + 1) f (by omega) (by omega) (by omega)
  exact main _ 0 f rfl (Nat.zero_le _) (by omega)
theorem d_isubI {i j : Int} {μ : Mu} : dISub (.int i) (.int j) μ = .ok (.int (i - j), μ) := id rfl
theorem d_iaddI {i j : Int} {μ : Mu} : dIAdd (.int i) (.int j) μ = .ok (.int (i + j), μ) := id rfl
theorem d_iaddS {x y : List Nat} {μ : Mu} (h : x.length + y.length ≤ lineN) : dIAdd (.str x) (.str y) μ = .ok (.str (x ++ y), μ) := if_pos h
end Lr

/-! Lr, part 19: sorted of texts. -/
namespace PySem.LrSort
open PySem PySem.Calls PyProof.Rows PySem.W
section
variable {prog : Program} {w : World} {A : Around} {E : Value → Shared → Prop} {s : Shared}
/-- sorted(x), up to the sort -/
theorem sortedS {x : Str} {t : Tok} {Q : Value → Shared → Prop} (hh : A.handled = none) (hn : x.cps.size ≤ sizeLine)
    (h : ∀ (h' : Heap) (tk : Nat) (acc : Array Value), (∀ b o, s.heap.get? b = some o → h'.get? b = some o) → ItemsOf (SignAt x) acc x.cps.size →
      wpAny (model prog w) A.in1 (call (.builtin "list.sort") [.ref h'.objs.size]) (fun _ s' => Q (.ref h'.objs.size) s') E { s with heap := h'.push { cls := .type "list", data := .seq acc }, toks := tk }) :
    wpAny (model prog w) A (call (.builtin "sorted") [.str x t]) Q E s := by
  refine call_function_entry kind_sorted plain_sorted entry_sorted (args_sorted1 _) ?_
  unfold Builtin.«sorted»
  refine wpAny_bind (m := checkCount "sorted" 1 1 _) (wpAny_pure ?_)
  refine wpAny_bind (wpAny_collect_str (A := A.in1) (hn := hn) hh x t fun s1 acc hk hg hd ho hacc => ?_)
  refine wpAny_bind (wpAny_newList ?_ (by rw [Array.length_toList, hacc.1]; exact hn))
  obtain ⟨h', g', d', tk', os'⟩ := s1
  have e1 : g' = s.gens := hg
  have e2 : d' = s.drawn := hd
  have e3 : os' = s.os := ho
  subst e1 e2 e3
  have hg := h h' tk' acc hk hacc
  have ea : acc.toList.toArray = acc := by simp
  rw [← ea] at hg
  refine wpAny_bind (wpAny_holding (wpAny_mono hg (fun _ s' x => ?_) fun _ _ e => e))
  exact wpAny_pure ⟨_, rfl, x⟩
end
end PySem.LrSort
namespace Lr
open PySem L2
def encC (c : Nat) : PyData := .str ⟨#[c]⟩
/-- a text's signs, sorted -/
def srtC (z : List Nat) : List Nat := z.mergeSort (PySem.W.dataLe false encC)
theorem srtC_len (z : List Nat) : (srtC z).length = z.length := List.length_mergeSort ..
theorem srtC_mem (z : List Nat) (c : Nat) : c ∈ srtC z ↔ c ∈ z := (List.mergeSort_perm z _).mem_iff
def rSortC : List V → Hp → VK → Prop := fun xs H Q => ∃ x : Str, xs = [.str x] ∧ x.cps.size ≤ 16777216 ∧ ∀ p, H p = none → Q (.ref p) (upd H p (.lst ((srtC x.cps.toList).map fun c => V.str ⟨#[c]⟩)))
theorem vals_C : ∀ {out : List Value} {cs : List Nat}, PySem.W.EachIs (fun v c => ∃ t, v = Value.str ⟨#[c]⟩ t) out cs → Vals (cs.map fun c => V.str ⟨#[c]⟩) out
  | _, _, .nil => .nil
  | _, _, .cons ⟨t, h⟩ r => .cons ⟨t, h⟩ (vals_C r)
theorem items_C {x : Str} {acc : Array Value} (h : ItemsOf (SignAt x) acc x.cps.size) : PySem.W.EachIs (fun v c => ∃ t, v = Value.str ⟨#[c]⟩ t) acc.toList x.cps.toList := by
  refine PySem.W.EachIs.of_zip (by rw [Array.length_toList, Array.length_toList, h.1]) fun p hp => ?_
  obtain ⟨i, hi, e⟩ := List.getElem_of_mem hp
  rw [List.length_zip, Array.length_toList, Array.length_toList, h.1, Nat.min_self] at hi
  rw [List.getElem_zip] at e
  subst e
  obtain ⟨c, u, h1, h2⟩ := h.2 i (acc[i]'(by rw [h.1]; exact hi)) (Array.getElem?_eq_getElem _)
  rw [Array.getElem?_eq_getElem hi] at h1
  cases h1
  exact ⟨u, by simpa using h2⟩
section
variable {X : Cx}
theorem cr_sortedC (hc : X.calm = true) (hu : X.A.units + 64 < cLine) : CallR X (.builtin "sorted") rSortC := by
  intro pins s σ H vs us Q I r h
  obtain ⟨x, rfl, hx, q⟩ := h
  cases r with
  | cons r1 r2 =>
    cases r2
    obtain ⟨t, rfl⟩ := r1
    refine PySem.LrSort.sortedS (I.ok.hd hc) hx fun h' tk acc hk hacc => ?_
    have hnew : s.heap.get? h'.objs.size = none := by
      cases e : s.heap.get? h'.objs.size with
      | none => rfl
      | some o => exact absurd (Heap.lt_size (hk _ _ e)) (Nat.lt_irrefl _)
    have hH : H h'.objs.size = none := I.hok.gone hnew
    have ea : acc.toList.toArray = acc := by simp
    have ho : (h'.push { cls := .type "list", data := .seq acc }).get? h'.objs.size = some (PyProof.Rows.seqObj "list" acc.toList.toArray 0) := by rw [ea]; exact Heap.get?_push_size _ rfl
    have ei := items_C hacc
    refine PySem.W.list_sort_data (s := { s with heap := h'.push { cls := .type "list", data := .seq acc }, toks := tk }) (bs := x.cps.toList) (enc := encC) (R := fun v c => ∃ t, v = Value.str ⟨#[c]⟩ t) ho ei
      (ei.mono fun v c ⟨t, e⟩ => ⟨[], by rw [e]; exact .str _ _, by simp⟩) (PySem.W.AllAlike.of fun b b' => by simp [encC, PySem.W.alike]) (PySem.W.Sortable.others fun b => ⟨by simp [encC], by simp [encC]⟩)
      (by rw [Array.length_toList]; exact hx) (fun b _ => by show X.A.in1.units + 1 + (encC b).depth < cLine; simp only [encC, PyData.depth]; have : X.A.in1.units = X.A.units + 1 := rfl; omega) fun out hl eo => ?_
    obtain ⟨ep, he'⟩ := PyProof.Rows.sortedHeap_at (vs := acc.toList) (out := List.toArray out) ho
    have hlen : (((srtC x.cps.toList).map fun c => V.str ⟨#[c]⟩)).length ≤ sizeLine := by rw [List.length_map, srtC_len, Array.length_toList]; exact hx
    refine ⟨.ref _, _, I.laidN (t' := tk) (h' := PyProof.Rows.sortedHeap (h'.push { cls := .type "list", data := .seq acc }) h'.objs.size acc.toList (List.toArray out)) (o := .lst ((srtC x.cps.toList).map fun c => V.str ⟨#[c]⟩)) (fun b u e => ?_) hnew hH ⟨hlen, out, ep, vals_C eo, he'⟩, rfl, q _ hH⟩
    have hb := Heap.lt_size (hk b u e)
    rw [PyProof.Rows.sortedHeap_old (Nat.ne_of_lt hb) (by rw [Heap.size_push]; exact Nat.lt_succ_of_lt hb)]
    exact Heap.get?_push_of_some _ (hk b u e)
end
section
variable {nm : Nm} {X : Cx} {W : XW}
def dSorted (fl : Bool) : FN := fun ds μ => match ds with
  | [.str z] => if z.length ≤ lineN then .ok (mkL fl (chL (srtC z)) μ) else .no
  | _ => .no
theorem reps_chL {t : Ct} {G : Hp} {ρ : List Addr} : ∀ {z : List Nat}, (∀ c ∈ z, c < 1114112) → reps t G ρ (chL z) (z.map fun c => V.str ⟨#[c]⟩)
  | [], _ => rfl
  | c :: r, h => ⟨_, _, rfl, ⟨rfl, okS_mk (by simp [lineN]) (by simpa using h c (by simp))⟩, reps_chL fun d hd => h d (by simp [hd])⟩
theorem opn_sorted {fl : Bool} : OpN nm X W (dSorted fl) rSortC := by
  intro env μ σ H ρ G Q ds vs R r P
  unfold dSorted at P
  split at P
  · obtain ⟨v, r0, rfl, rv, hr⟩ := r
    cases hr
    obtain ⟨rfl, o⟩ := rv
    rename_i z
    split at P
    · rename_i hz
      have ecps : (S z).cps.size = z.length := by simp [S]
      refine ⟨S z, rfl, by rw [ecps]; exact hz, ?_⟩
      rw [S_cps]
      exact new_L R (reps_chL fun c hc => okS_mem o ((srtC_mem z c).mp hc)) P
    · exact P.elim
  · exact P.elim
end
theorem d_sortedS {fl : Bool} {z : List Nat} {μ : Mu} (h : z.length ≤ lineN) : dSorted fl [.str z] μ = .ok (mkL fl (chL (srtC z)) μ) := if_pos h
end Lr

/-! Lr, part 20: sorted of lists of data. -/
namespace Lr
open PySem L2
abbrev encD (q : V × D) : PyData := toP q.2
def rSortL (X : Cx) : List V → Hp → VK → Prop := fun xs H Q => ∃ (p : Addr) (ps : List (V × D)), xs = [.ref p] ∧ SqL X.K H p (ps.map Prod.fst) ∧ (∀ q ∈ ps, Dp X.K H q.1 (toP q.2)) ∧ PySem.W.AllAlike (ps.map encD) ∧ PySem.W.Sortable (ps.map encD) ∧
  ps.length ≤ 16777216 ∧ (∀ q ∈ ps, (toP q.2).depth ≤ 20) ∧ ∀ l, H l = none → Q (.ref l) (upd H l (.lst ((ps.mergeSort (PySem.W.dataLe false encD)).map Prod.fst)))
theorem each_V : ∀ {out : List Value} {ps : List (V × D)}, PySem.W.EachIs (fun v q => RelV q.1 v) out ps → Vals (ps.map Prod.fst) out
  | _, _, .nil => .nil
  | _, _, .cons h r => .cons h (each_V r)
theorem V_each : ∀ {ps : List (V × D)} {out : List Value}, Vals (ps.map Prod.fst) out → PySem.W.EachIs (fun v q => RelV q.1 v) out ps
  | [], _, h => by cases h; exact .nil
  | p :: ps, _, h => by
    cases h with
    | cons h r => exact .cons h (V_each r)
theorem each_memP {R : Value → V × D → Prop} : ∀ {out : List Value} {ps : List (V × D)}, PySem.W.EachIs R out ps → PySem.W.EachIs (fun v q => R v q ∧ q ∈ ps) out ps
  | _, _, .nil => .nil
  | _, _, .cons h r => .cons ⟨h, by simp⟩ ((each_memP r).mono fun _ _ ⟨a, b⟩ => ⟨a, by simp [b]⟩)
section
variable {X : Cx}
theorem cr_sortedL (hu : X.A.units + 64 < cLine) : CallR X (.builtin "sorted") (rSortL X) := by
  intro pins s σ H vs us Q I r h
  obtain ⟨p, ps, rfl, hs, hd, hal, hk, hz, hdep, q⟩ := h
  obtain ⟨its, rv, hl, _⟩ := I.list hs
  rw [Vals.ref1 r]
  have ei := V_each rv
  refine PySem.W.sorted_data (R := fun v q => RelV q.1 v) (bs := ps) (enc := encD) hl.isList ei ((each_memP ei).mono fun v q ⟨rx, hm⟩ => Dp.reads I (toP q.2) q.1 v (hd q hm) rx) hal hk (by rw [sizeLine_eq]; exact hz) (fun b hb => by have := hdep b hb; show X.A.units + 2 + (toP b.2).depth < cLine; omega) fun out ho eo => ?_
  obtain ⟨ep, he'⟩ := PyProof.Rows.sortedAll_at s.heap its (List.toArray out)
  have hlen : ((ps.mergeSort (PySem.W.dataLe false encD)).map Prod.fst).length ≤ sizeLine := by rw [List.length_map, List.length_mergeSort, sizeLine_eq]; exact hz
  exact ⟨.ref _, _, I.laid (a := s.heap.objs.size + 1) (o := .lst ((ps.mergeSort (PySem.W.dataLe false encD)).map Prod.fst)) (t' := s.toks) (fun _ _ => PyProof.Rows.sortedAll_old) (Nat.le_succ _) ⟨hlen, out, ep, each_V eo, he'⟩, rfl, q _ (I.hok.fresh (Nat.le_succ _))⟩
end
/-- lists that are sorted: data alike, tuples with something in them or none of them -/
def tupNe : D → Bool
  | .tup (_ :: _) => true
  | _ => false
def noTup : D → Bool
  | .int _ => true | .str _ => true | .bl _ => true
  | _ => false
def okSort (ds : List D) : Bool := (ds.all fun a => ds.all fun b => PySem.W.alike (toP a) (toP b)) && (ds.all tupNe || ds.all noTup) && pds 20 ds && decide (ds.length ≤ lineN)
def srtD (ds : List D) : List D := ds.mergeSort (PySem.W.dataLe false toP)
def dSortL (fl : Bool) : FN := fun ds μ => match ds with
  | [.str z] => if z.length ≤ lineN then .ok (mkL fl (chL (srtC z)) μ) else .no
  | [d] => match lof d μ with
    | some xs => if okSort xs = true then .ok (mkL fl (srtD xs) μ) else .no
    | none => .no
  | _ => .no
section
variable {nm : Nm} {X : Cx} {W : XW}
theorem reps_zip {t : Ct} {G : Hp} {ρ : List Addr} : ∀ {ds : List D} {vs : List V}, reps t G ρ ds vs → ∃ ps : List (V × D), ps.map Prod.fst = vs ∧ ps.map Prod.snd = ds ∧ ∀ q ∈ ps, rep t G ρ q.2 q.1
  | [], _, h => by cases h; exact ⟨[], rfl, rfl, fun _ h => by simp at h⟩
  | d :: ds, _, ⟨v, r, e, h1, h2⟩ => by
    subst e
    obtain ⟨ps, a, b, c⟩ := reps_zip h2
    refine ⟨(v, d) :: ps, by simp [a], by simp [b], fun q hq => ?_⟩
    rcases List.mem_cons.mp hq with h | h
    · rw [h]; exact h1
    · exact c q h
theorem reps_of {t : Ct} {G : Hp} {ρ : List Addr} : ∀ {ps : List (V × D)}, (∀ q ∈ ps, rep t G ρ q.2 q.1) → reps t G ρ (ps.map Prod.snd) (ps.map Prod.fst)
  | [], _ => rfl
  | p :: ps, h => ⟨_, _, rfl, h p (by simp), reps_of fun q hq => h q (by simp [hq])⟩
theorem opn_sortL {fl : Bool} : OpN nm X W (dSortL fl) (fun xs H Q => rSortC xs H Q ∨ rSortL X xs H Q) := by
  intro env μ σ H ρ G Q ds vs R r P
  unfold dSortL at P
  split at P
  · exact .inl (opn_sorted (fl := fl) env μ σ H ρ G Q _ vs R r P)
  · obtain ⟨v, r0, rfl, rv, hr⟩ := r
    cases hr
    split at P
    · rename_i xs e0
      obtain ⟨a, ws, rfl, hq, rs⟩ := lof_ok R rv e0
      split at P
      · rename_i hz
        unfold okSort at hz
        simp only [Bool.and_eq_true, Bool.or_eq_true, decide_eq_true_eq, List.all_eq_true] at hz
        obtain ⟨⟨⟨h1, h2⟩, h3⟩, h4⟩ := hz
        obtain ⟨ps, b1, b2, b3⟩ := reps_zip rs
        have hp : ∀ q ∈ ps, q.2 ∈ xs := fun q hq => by rw [← b2]; exact List.mem_map.mpr ⟨q, hq, rfl⟩
        have hd : ∀ q ∈ ps, DpK X H 20 q.1 (toP q.2) := fun q hq => pd_ok R 20 q.2 q.1 (b3 q hq) (pds_mem h3 _ (hp q hq))
        refine .inr ⟨a, ps, rfl, by rw [b1]; exact hq, fun q hq => (hd q hq).1, ?_, ?_, ?_, fun q hq => (hd q hq).2.2, ?_⟩
        · intro d hd d' hd'
          obtain ⟨q, hq, rfl⟩ := List.mem_map.mp hd
          obtain ⟨q', hq', rfl⟩ := List.mem_map.mp hd'
          exact h1 _ (hp q hq) _ (hp q' hq')
        · rcases h2 with h2 | h2
          · refine .inl fun d hd => ?_
            obtain ⟨q, hq, rfl⟩ := List.mem_map.mp hd
            have := h2 _ (hp q hq)
            unfold tupNe at this
            split at this
            · rename_i x y e
              show ∃ x r, toP q.2 = _
              rw [e]
              exact ⟨_, _, rfl⟩
            · cases this
          · refine .inr fun d hd => ?_
            obtain ⟨q, hq, rfl⟩ := List.mem_map.mp hd
            have := h2 _ (hp q hq)
            unfold noTup at this
            show toP q.2 ≠ _ ∧ ∀ xs, toP q.2 ≠ _
            split at this
            · rename_i e; rw [e]; simp [toP]
            · rename_i e; rw [e]; simp [toP]
            · rename_i e; rw [e]; simp [toP]
            · cases this
        · have : ps.length = xs.length := by rw [← b2, List.length_map]
          rw [this]; exact h4
        · have e1 : srtD xs = (ps.mergeSort (PySem.W.dataLe false encD)).map Prod.snd := by
            unfold srtD
            rw [← b2]
            exact (List.map_mergeSort (r := PySem.W.dataLe false encD) (s := PySem.W.dataLe false toP) (f := Prod.snd) (l := ps) (fun _ _ _ _ => rfl)).symm
          rw [e1] at P
          exact new_L R (reps_of fun q hq => b3 q ((List.mergeSort_perm ps _).mem_iff.mp hq)) P
      · exact P.elim
    · exact P.elim
  · exact P.elim
theorem cr_sortL (hc : X.calm = true) (hu : X.A.units + 64 < cLine) : CallR X (.builtin "sorted") (fun xs H Q => rSortC xs H Q ∨ rSortL X xs H Q) := (cr_sortedC hc hu).or (cr_sortedL hu)
end
theorem d_sortLS {fl : Bool} {z : List Nat} {μ : Mu} (h : z.length ≤ lineN) : dSortL fl [.str z] μ = .ok (mkL fl (chL (srtC z)) μ) := if_pos h
theorem d_sortLL {fl : Bool} {ds : List D} {μ : Mu} (h : okSort ds = true) : dSortL fl [.lst ds] μ = .ok (mkL fl (srtD ds) μ) := if_pos h
end Lr

/-! Lr, part 21: dicts made, listed, sorted; texts listed; insert, clear. -/
namespace PySem.LrSort
open PySem PySem.Calls PyProof.Rows PySem.W
section
variable {prog : Program} {w : World} {A : Around} {E : Value → Shared → Prop} {s : Shared}
/-- sorted(d), up to the sort -/
theorem sortedK {T : String} {r d : Addr} {n : Nat} {P : Nat → Value → Prop} {OK : Heap → Prop} {Q : Value → Shared → Prop} (K : KdlSrc prog w T r d n P OK) (hh : A.handled = none) (hok : OK s.heap) (hn : n ≤ sizeLine)
    (h : ∀ (h' : Heap) (tk : Nat) (acc : Array Value), (∀ b o, s.heap.get? b = some o → h'.get? b = some o) → ItemsOf P acc n →
      wpAny (model prog w) A.in1 (call (.builtin "list.sort") [.ref h'.objs.size]) (fun _ s' => Q (.ref h'.objs.size) s') E { s with heap := h'.push { cls := .type "list", data := .seq acc }, toks := tk }) :
    wpAny (model prog w) A (call (.builtin "sorted") [.ref r]) Q E s := by
  refine call_function_entry kind_sorted plain_sorted entry_sorted (args_sorted1 _) ?_
  unfold Builtin.«sorted»
  refine wpAny_bind (m := checkCount "sorted" 1 1 _) (wpAny_pure ?_)
  refine wpAny_bind (kdu_collect (A := A.in1) K hh hok hn fun h' tk acc hk hacc => ?_)
  refine wpAny_bind (wpAny_newList ?_ (by rw [Array.length_toList, hacc.1]; exact hn))
  have hg := h h' tk acc hk hacc
  have ea : acc.toList.toArray = acc := by simp
  rw [← ea] at hg
  refine wpAny_bind (wpAny_holding (wpAny_mono hg (fun _ s' x => ?_) fun _ _ e => e))
  exact wpAny_pure ⟨_, rfl, x⟩
end
end PySem.LrSort
namespace Lr
open PySem L2
def encS (z : Str) : PyData := .str z
theorem vals_S : ∀ {out : List Value} {zs : List Str}, PySem.W.EachIs (fun v z => ∃ t, v = Value.str z t) out zs → Vals (zs.map V.str) out
  | _, _, .nil => .nil
  | _, _, .cons ⟨t, h⟩ r => .cons ⟨t, h⟩ (vals_S r)
theorem S_vals : ∀ {zs : List Str} {out : List Value}, Vals (zs.map V.str) out → PySem.W.EachIs (fun v z => ∃ t, v = Value.str z t) out zs
  | [], _, h => by cases h; exact .nil
  | p :: ps, _, h => by
    cases h with
    | cons h r => exact .cons h (S_vals r)
def rSortK : List V → Hp → VK → Prop := fun xs H Q => ∃ (a : Addr) (kvs : List (Key × V)) (zs : List Str), xs = [.ref a] ∧ Rd H a (.dK kvs) ∧ (kvs.map fun kv => kV kv.1) = zs.map V.str ∧
  ∀ l, H l = none → Q (.ref l) (upd H l (.lst ((zs.mergeSort (PySem.W.dataLe false encS)).map V.str)))
section
variable {X : Cx}
theorem cr_sortedK (hc : X.calm = true) (hu : X.A.units + 64 < cLine) : CallR X (.builtin "sorted") rSortK := by
  intro pins s σ H vs us Q I r h
  obtain ⟨a, kvs, zs, rfl, hd, ez, q⟩ := h
  rw [Vals.ref1 r]
  obtain ⟨z, lo, ws, rel, dd⟩ := dk_rd I.hok hd
  obtain ⟨ep, hat⟩ := dd.dictAt
  have ek : (kvs.map fun kv => kV kv.1) = ws.map fun p => kV p.1 := by
    have e := congrArg (List.map kV) rel.keys
    rw [List.map_map, List.map_map] at e
    exact e
  refine PySem.LrSort.sortedK (PySem.W.kdl_dict (knd := mixKind X.prog X.w) (kvs := ws) (ep := ep) lo) (I.ok.hd hc) hat (by rw [← rel.length]; exact z) fun h' tk acc hk hacc => ?_
  have hv : Vals (ws.map fun p => kV p.1) acc.toList := keys_at (by rw [Array.length_toList]; exact hacc.1) fun j v e => hacc.2 j v (by rw [← Array.getElem?_toList]; exact e)
  rw [← ek, ez] at hv
  have hzl : zs.length = kvs.length := by have := congrArg List.length ez; rw [List.length_map, List.length_map] at this; exact this.symm
  have hnew : s.heap.get? h'.objs.size = none := by
    cases e : s.heap.get? h'.objs.size with
    | none => rfl
    | some o => exact absurd (Heap.lt_size (hk _ _ e)) (Nat.lt_irrefl _)
  have hH : H h'.objs.size = none := I.hok.gone hnew
  have ea : acc.toList.toArray = acc := by simp
  have ho : (h'.push { cls := .type "list", data := .seq acc }).get? h'.objs.size = some (PyProof.Rows.seqObj "list" acc.toList.toArray 0) := by rw [ea]; exact Heap.get?_push_size _ rfl
  have ei := S_vals hv
  refine PySem.W.list_sort_data (s := { s with heap := h'.push { cls := .type "list", data := .seq acc }, toks := tk }) (bs := zs) (enc := encS) (R := fun v c => ∃ t, v = Value.str c t) ho ei
    (ei.mono fun v c ⟨t, e⟩ => ⟨[], by rw [e]; exact .str _ _, by simp⟩) (PySem.W.AllAlike.of fun b b' => by simp [encS, PySem.W.alike]) (PySem.W.Sortable.others fun b => ⟨by simp [encS], by simp [encS]⟩)
    (by rw [hzl]; exact z) (fun b _ => by show X.A.in1.units + 1 + (encS b).depth < cLine; simp only [encS, PyData.depth]; have : X.A.in1.units = X.A.units + 1 := rfl; omega) fun out hl eo => ?_
  obtain ⟨ep2, he'⟩ := PyProof.Rows.sortedHeap_at (vs := acc.toList) (out := List.toArray out) ho
  have hlen : ((zs.mergeSort (PySem.W.dataLe false encS)).map V.str).length ≤ sizeLine := by rw [List.length_map, List.length_mergeSort, hzl]; exact z
  refine ⟨.ref _, _, I.laidN (t' := tk) (h' := PyProof.Rows.sortedHeap (h'.push { cls := .type "list", data := .seq acc }) h'.objs.size acc.toList (List.toArray out)) (o := .lst ((zs.mergeSort (PySem.W.dataLe false encS)).map V.str)) (fun b u e => ?_) hnew hH ⟨hlen, out, ep2, vals_S eo, he'⟩, rfl, q _ hH⟩
  have hb := Heap.lt_size (hk b u e)
  rw [PyProof.Rows.sortedHeap_old (Nat.ne_of_lt hb) (by rw [Heap.size_push]; exact Nat.lt_succ_of_lt hb)]
  exact Heap.get?_push_of_some _ (hk b u e)
/-- list(x): its signs -/
theorem call_listC (hc : X.calm = true) : CallR X (.type "list") (fun xs H Q => ∃ x : Str, xs = [.str x] ∧ x.cps.size ≤ 16777216 ∧ ∀ p, H p = none → Q (.ref p) (upd H p (.lst (x.cps.toList.map fun c => V.str ⟨#[c]⟩)))) := by
  intro pins s σ H vs us Q I r h
  obtain ⟨x, rfl, hx, q⟩ := h
  cases r with
  | cons r1 r2 =>
    cases r2
    obtain ⟨t, rfl⟩ := r1
    refine PySem.call_list_str (I.ok.hd hc) x t (fun h' tk acc c hk hat hacc => ?_) hx
    have hlen : ((x.cps.toList.map fun c => V.str ⟨#[c]⟩)).length ≤ sizeLine := by rw [List.length_map, Array.length_toList]; exact hx
    have ea : acc.toList.toArray = acc := by simp
    exact ⟨.ref _, _, I.laid (t' := tk) (o := .lst (x.cps.toList.map fun c => V.str ⟨#[c]⟩)) hk (Nat.le_refl _) ⟨hlen, acc.toList, c, vals_C (items_C hacc), by rw [ea]; exact hat⟩, rfl, q _ (I.hok.fresh (Nat.le_refl _))⟩
end
section
variable {nm : Nm} {X : Cx} {W : XW} {pos : Pos}
def mkD (fl : Bool) (d : D) (μ : Mu) : D × Mu := if fl then (.ref μ.length, μ ++ [d]) else (d, μ)
def cDicK (fl : Bool) : M := fun _ μ => .ok (mkD fl (.dic []) μ)
def cDicT (fl : Bool) : M := fun _ μ => .ok (mkD fl (.dit []) μ)
theorem ev_dicK (fl : Bool) : EV nm X W (.Dict [] [] pos) (cDicK fl) := ev_of pe_dnewK fun env μ σ H ρ G Q R P => by
  intro p hp
  cases fl with
  | true =>
    obtain ⟨R2, e2, g⟩ := R.newCell (o := .dK []) (d := .dic []) hp ⟨[], upd_same, rfl⟩
    exact P _ _ _ _ e2 R2 ⟨p, g, rfl⟩
  | false =>
    obtain ⟨R2, e2⟩ := R.laidG (.dK []) hp
    exact P _ _ ρ _ e2 R2 ⟨p, [], rfl, upd_same, rfl⟩
theorem ev_dicT (fl : Bool) : EV nm X W (.Dict [] [] pos) (cDicT fl) := ev_of pe_dnewT fun env μ σ H ρ G Q R P => by
  intro p hp
  cases fl with
  | true =>
    obtain ⟨R2, e2, g⟩ := R.newCell (o := .dT []) (d := .dit []) hp ⟨[], upd_same, rfl⟩
    exact P _ _ _ _ e2 R2 ⟨p, g, rfl⟩
  | false =>
    obtain ⟨R2, e2⟩ := R.laidG (.dT []) hp
    exact P _ _ ρ _ e2 R2 ⟨p, [], rfl, upd_same, rfl⟩
/-- a dict's keys, texts all of them -/
def keysS : List (D × D) → Option (List (List Nat))
  | [] => some []
  | (.str x, _) :: r => (keysS r).map (x :: ·)
  | _ => none
theorem keysS_ok {t : Ct} {G : Hp} {ρ : List Addr} : ∀ {kvs : List (D × D)} {ks : List (Key × V)} {xs : List (List Nat)}, repk t G ρ kvs ks → keysS kvs = some xs → (ks.map fun kv => kV kv.1) = (xs.map S).map V.str
  | [], _, xs, h, e => by cases h; cases e; rfl
  | (k, d) :: r, _, xs, ⟨k', v, r', e1, hk, h1, h2⟩, e => by
    subst e1
    cases k with
    | str x =>
      simp only [keysS, Option.map_eq_some_iff] at e
      obtain ⟨ys, e2, rfl⟩ := e
      have hk' : k' = .inr (S x) := by
        have : keyOf (.str x) = some (.inr (S x)) := rfl
        rw [this] at hk
        exact (Option.some.inj hk).symm
      rw [List.map_cons, keysS_ok h2 e2, hk']
      rfl
    | _ => cases e
def srtS (xs : List (List Nat)) : List (List Nat) := xs.mergeSort fun a b => PySem.W.dataLe false encS (S a) (S b)
theorem srtS_S (xs : List (List Nat)) : (xs.map S).mergeSort (PySem.W.dataLe false encS) = (srtS xs).map S := (List.map_mergeSort (r := fun a b => PySem.W.dataLe false encS (S a) (S b)) (s := PySem.W.dataLe false encS) (f := S) (l := xs) fun _ _ _ _ => rfl).symm
theorem srtS_D (xs : List (List Nat)) : srtD (xs.map D.str) = (srtS xs).map D.str := (List.map_mergeSort (r := fun a b => PySem.W.dataLe false encS (S a) (S b)) (s := PySem.W.dataLe false toP) (f := D.str) (l := xs) fun _ _ _ _ => rfl).symm
def dSortA (fl : Bool) : FN := fun ds μ => match ds with
  | [d] => match dof d μ with
    | some (.dic kvs) => match keysS kvs with
      | some xs => if (xs.all okS) = true then .ok (mkL fl ((srtS xs).map D.str) μ) else .no
      | none => .no
    | _ => dSortL fl [d] μ
  | _ => .no
theorem reps_strs {t : Ct} {G : Hp} {ρ : List Addr} : ∀ {xs : List (List Nat)}, (∀ x ∈ xs, okS x = true) → reps t G ρ (xs.map D.str) ((xs.map S).map V.str)
  | [], _ => rfl
  | x :: r, h => ⟨_, _, rfl, ⟨rfl, h x (by simp)⟩, reps_strs fun y hy => h y (by simp [hy])⟩
theorem opn_sortA {fl : Bool} : OpN nm X W (dSortA fl) (fun xs H Q => (rSortC xs H Q ∨ rSortL X xs H Q) ∨ rSortK xs H Q) := by
  intro env μ σ H ρ G Q ds vs R r P
  unfold dSortA at P
  split at P
  · split at P
    · rename_i e0
      split at P
      · rename_i xs e1
        split at P
        · rename_i hz
          obtain ⟨v, r0, rfl, rv, hr⟩ := r
          cases hr
          obtain ⟨a, rfl, ⟨_, ks, e2, hh, rk⟩ | ⟨_, ks, e2, hh, rk⟩⟩ := dof_ok R rv e0
          · cases e2
            refine .inr ⟨a, ks, xs.map S, rfl, .inl hh, keysS_ok rk e1, ?_⟩
            rw [srtS_S]
            exact new_L R (reps_strs fun x hx => List.all_eq_true.mp hz x ((List.mergeSort_perm xs _).mem_iff.mp hx)) P
          · cases e2
        · exact P.elim
      · exact P.elim
    · exact .inl (opn_sortL (fl := fl) env μ σ H ρ G Q _ vs R r P)
  · exact P.elim
theorem cr_sortA (hc : X.calm = true) (hu : X.A.units + 64 < cLine) : CallR X (.builtin "sorted") (fun xs H Q => (rSortC xs H Q ∨ rSortL X xs H Q) ∨ rSortK xs H Q) := (cr_sortL hc hu).or (cr_sortedK hc hu)
/-- list(x) of a text, of a dict with texts as keys, of a list or a tuple -/
def dListA (fl : Bool) : FN := fun ds μ => match ds with
  | [.str z] => if z.length ≤ lineN then .ok (mkL fl (chL z) μ) else .no
  | [d] => match dof d μ with
    | some (.dic kvs) => match keysS kvs with
      | some xs => if (xs.all okS) = true then .ok (mkL fl (xs.map D.str) μ) else .no
      | none => .no
    | _ => dList fl [d] μ
  | _ => .no
def rListC : List V → Hp → VK → Prop := fun xs H Q => ∃ x : Str, xs = [.str x] ∧ x.cps.size ≤ 16777216 ∧ ∀ p, H p = none → Q (.ref p) (upd H p (.lst (x.cps.toList.map fun c => V.str ⟨#[c]⟩)))
def rListD : List V → Hp → VK → Prop := fun xs H Q => ∃ (a : Addr) (kvs : List (Key × V)), xs = [.ref a] ∧ Rd H a (.dK kvs) ∧ ∀ p, H p = none → Q (.ref p) (upd H p (.lst (kvs.map fun kv => kV kv.1)))
def rListL (X : Cx) : List V → Hp → VK → Prop := fun xs H Q => ∃ p ys, xs = [.ref p] ∧ (SqL X.K H p ys ∨ SqT X.K H p ys) ∧ ∀ l, H l = none → Q (.ref l) (upd H l (.lst ys))
theorem opn_listA {fl : Bool} : OpN nm X W (dListA fl) (fun xs H Q => (rListL X xs H Q ∨ rListC xs H Q) ∨ rListD xs H Q) := by
  intro env μ σ H ρ G Q ds vs R r P
  unfold dListA at P
  split at P
  · obtain ⟨v, r0, rfl, rv, hr⟩ := r
    cases hr
    obtain ⟨rfl, o⟩ := rv
    rename_i z
    split at P
    · rename_i hz
      have ecps : (S z).cps.size = z.length := by simp [S]
      refine .inl (.inr ⟨S z, rfl, by rw [ecps]; exact hz, ?_⟩)
      rw [S_cps]
      exact new_L R (reps_chL fun c hc => okS_mem o hc) P
    · exact P.elim
  · split at P
    · rename_i e0
      split at P
      · rename_i xs e1
        split at P
        · rename_i hz
          obtain ⟨v, r0, rfl, rv, hr⟩ := r
          cases hr
          obtain ⟨a, rfl, ⟨_, ks, e2, hh, rk⟩ | ⟨_, ks, e2, hh, rk⟩⟩ := dof_ok R rv e0
          · cases e2
            refine .inr ⟨a, ks, rfl, .inl hh, ?_⟩
            rw [keysS_ok rk e1]
            exact new_L R (reps_strs fun x hx => List.all_eq_true.mp hz x hx) P
          · cases e2
        · exact P.elim
      · exact P.elim
    · exact .inl (.inl (opn_list (fl := fl) env μ σ H ρ G Q _ vs R r P))
  · exact P.elim
theorem call_listA (hc : X.calm = true) : CallR X (.type "list") (fun xs H Q => (rListL X xs H Q ∨ rListC xs H Q) ∨ rListD xs H Q) := ((call_list_of).or (call_listC hc)).or (call_listD hc)
/-! insert, clear -/
def mInsert : FM := fun d ds μ => lst1 d μ fun n xs => match ds with
  | [.int i, y] => if xs.length < lineN ∧ 0 ≤ i ∧ i < 2 ^ 63 then .ok (.non, μ.set n (.lst (xs.take i.toNat ++ [y] ++ xs.drop i.toNat))) else .no
  | _ => .no
theorem opm_insert : OpM nm X W mInsert (fun x vs H Q => ∃ (l : Addr) (xs : List V) (i : Int) (y : V), x = .ref l ∧ vs = [.int i, y] ∧ H l = some (.lst xs) ∧ xs.length < sizeLine ∧ 0 ≤ i ∧ i < 2 ^ 63 ∧
    Q .non (upd H l (.lst (xs.take i.toNat ++ [y] ++ xs.drop i.toNat)))) := by
  intro env μ σ H ρ G Q d ds v vs R rv r P
  unfold mInsert lst1 at P
  split at P
  · split at P
    · rename_i n _ xs q
      obtain ⟨a, ws, rfl, ea, h, rs⟩ := cell_lst R rv q
      dsimp only at P
      split at P
      · rename_i i y
        obtain ⟨w, r0, rfl, rw', u, r1, rfl, ru, hr⟩ := r
        cases hr
        cases rw'
        split at P
        · rename_i hz
          obtain ⟨R2, e2⟩ := R.setCell (o := .lst (ws.take i.toNat ++ [u] ++ ws.drop i.toNat)) (d := .lst (xs.take i.toNat ++ [y] ++ xs.drop i.toNat)) ea ⟨_, upd_same, ((rs.take _).app (reps.one ru)).app (rs.drop _)⟩
          exact ⟨a, ws, i, u, rfl, rfl, h, by rw [rs.length, lineN_eq]; exact hz.1, hz.2.1, hz.2.2, P .non _ ρ G e2 R2 rfl⟩
        · exact P.elim
      · exact P.elim
    · exact P.elim
  · exact P.elim
def mClear : FM := fun d ds μ => lst1 d μ fun n _ => match ds with
  | [] => .ok (.non, μ.set n (.lst []))
  | _ => .no
theorem opm_clear : OpM nm X W mClear rClear := by
  intro env μ σ H ρ G Q d ds v vs R rv r P
  unfold mClear lst1 at P
  split at P
  · split at P
    · rename_i n _ xs q
      obtain ⟨a, ws, rfl, ea, h, rs⟩ := cell_lst R rv q
      dsimp only at P
      split at P
      · cases r
        obtain ⟨R2, e2⟩ := R.setCell (o := .lst []) (d := .lst []) ea ⟨_, upd_same, rfl⟩
        exact ⟨a, ws, rfl, rfl, h, P .non _ ρ G e2 R2 rfl⟩
      · exact P.elim
    · exact P.elim
  · exact P.elim
end
end Lr

/-! Lr, part 22: sets of texts, as lists and as dicts, evaluated. -/
namespace Lr
open PySem L2
theorem any_strs {x : List Nat} {ws : List (List Nat)} : ((ws.map D.str).any fun z => beqD z (.str x)) = decide (x ∈ ws) := by
  rw [List.any_map]
  apply Bool.eq_iff_iff.mpr
  rw [List.any_eq_true, decide_eq_true_eq]
  constructor
  · rintro ⟨w, hw, h⟩
    have h : beqD (.str w) (.str x) = true := h
    rw [beqD_str] at h
    rw [← of_decide_eq_true h]; exact hw
  · intro h
    exact ⟨x, h, by show beqD (.str x) (.str x) = true; rw [beqD_str]; simp⟩
theorem mapO_vE {μ : Mu} {ds : List D} (h : pds 20 ds = true) : mapO (vE μ) ds = some ds := mapO_id fun z hz => vE_pd (pds_mem h z hz)
theorem inL_strs {x : List Nat} {ws : List (List Nat)} {μ : Mu} : inL (.str x) (ws.map D.str) μ = some (decide (x ∈ ws)) := by
  unfold inL
  rw [vE_pd pd_str, mapO_vE pds_strs]
  dsimp only
  rw [any_strs]
theorem d_inLs {x : List Nat} {ws : List (List Nat)} {μ : Mu} : dIn (.str x) (.lst (ws.map D.str)) μ = .ok (.bl (decide (x ∈ ws)), μ) := by
  unfold dIn dInB
  simp only [lof, inL_strs]
  rfl
theorem d_inRs {x : List Nat} {ws : List (List Nat)} {n : Nat} {μ : Mu} (h : μ[n]? = some (.lst (ws.map D.str))) : dIn (.str x) (.ref n) μ = .ok (.bl (decide (x ∈ ws)), μ) := by
  unfold dIn dInB
  simp only [lof, h, inL_strs]
  rfl
/-- a set of texts as a dict -/
def setD (ws : List (List Nat)) : List (D × D) := ws.map fun w => (.str w, .bl true)
theorem setD_len (ws : List (List Nat)) : (setD ws).length = ws.length := List.length_map ..
theorem keysS_set (ws : List (List Nat)) : keysS (setD ws) = some ws := by
  induction ws with
  | nil => rfl
  | cons w r ih =>
    show (keysS (setD r)).map (w :: ·) = _
    rw [ih]; rfl
theorem any_set {x : List Nat} {ws : List (List Nat)} : ((setD ws).any fun p => kEq p.1 (.str x)) = decide (x ∈ ws) := by
  unfold setD
  rw [List.any_map]
  apply Bool.eq_iff_iff.mpr
  rw [List.any_eq_true, decide_eq_true_eq]
  constructor
  · rintro ⟨w, hw, h⟩
    have h : decide (w = x) = true := h
    rw [← of_decide_eq_true h]; exact hw
  · intro h
    exact ⟨x, h, decide_eq_true rfl⟩
theorem putD_set (ws : List (List Nat)) (x : List Nat) : putD (setD ws) (.str x) (.bl true) = setD (if x ∈ ws then ws else ws ++ [x]) := by
  unfold putD
  rw [any_set]
  by_cases h : x ∈ ws
  · rw [if_pos (decide_eq_true h), if_pos h]
    unfold setD
    rw [List.map_map]
    refine List.map_congr_left fun w _ => ?_
    show (if kEq (.str w) (.str x) = true then _ else _) = _
    split <;> rfl
  · rw [if_neg (by simpa using h), if_neg h]
    unfold setD
    rw [List.map_append]; rfl
theorem e_subSet {ws : List (List Nat)} {x : List Nat} {n : Nat} {e : Ev} {μ : Mu} (h : μ[n]? = some (.dic (setD ws))) (hl : ws.length < lineN) :
    kSub3 (.ok (.str x, μ)) e (.bl true) (.ref n) = some (.nx e (μ.set n (.dic (setD (if x ∈ ws then ws else ws ++ [x]))))) := by
  refine e_sub3 ?_
  unfold dSet
  simp only [h]
  rw [if_pos ⟨rfl, by rw [setD_len]; exact hl⟩, putD_set]
theorem look_set {x : List Nat} {ws : List (List Nat)} : (look (setD ws) (.str x)).isSome = decide (x ∈ ws) := by
  unfold look
  rw [Option.isSome_map, ← any_set]
  apply Bool.eq_iff_iff.mpr
  rw [List.find?_isSome, List.any_eq_true]
theorem d_inDs {x : List Nat} {ws : List (List Nat)} {μ : Mu} : dIn (.str x) (.dic (setD ws)) μ = .ok (.bl (decide (x ∈ ws)), μ) := by
  unfold dIn dInB
  simp only [lof, dof, dLook, isK, if_true, Option.map_some, look_set]
  rfl
theorem okSort_strs {ws : List (List Nat)} (h : ws.length ≤ lineN) : okSort (ws.map D.str) = true := by
  unfold okSort
  simp only [Bool.and_eq_true, Bool.or_eq_true, List.all_eq_true, decide_eq_true_eq]
  refine ⟨⟨⟨fun a ha b hb => ?_, .inr fun a ha => ?_⟩, pds_strs⟩, by rw [List.length_map]; exact h⟩
  · obtain ⟨x, _, rfl⟩ := List.mem_map.mp ha
    obtain ⟨y, _, rfl⟩ := List.mem_map.mp hb
    simp [toP, PySem.W.alike]
  · obtain ⟨x, _, rfl⟩ := List.mem_map.mp ha
    rfl
theorem d_sortAL {fl : Bool} {ws : List (List Nat)} {μ : Mu} (h : ws.length ≤ lineN) : dSortA fl [.lst (ws.map D.str)] μ = .ok (mkL fl ((srtS ws).map D.str) μ) := by
  rw [← srtS_D]
  show dSortL fl [.lst (ws.map D.str)] μ = _
  exact d_sortLL (okSort_strs h)
theorem d_sortAD {fl : Bool} {ws : List (List Nat)} {μ : Mu} (h : ∀ w ∈ ws, okS w = true) : dSortA fl [.dic (setD ws)] μ = .ok (mkL fl ((srtS ws).map D.str) μ) := by
  unfold dSortA
  simp only [dof, keysS_set]
  rw [if_pos (List.all_eq_true.mpr h)]
theorem d_listAR {fl : Bool} {ws : List (List Nat)} {n : Nat} {μ : Mu} (hn : μ[n]? = some (.dic (setD ws))) (h : ∀ w ∈ ws, okS w = true) : dListA fl [.ref n] μ = .ok (mkL fl (ws.map D.str) μ) := by
  unfold dListA
  simp only [dof, hn, keysS_set]
  rw [if_pos (List.all_eq_true.mpr h)]
theorem d_listAS {fl : Bool} {z : List Nat} {μ : Mu} (h : z.length ≤ lineN) : dListA fl [.str z] μ = .ok (mkL fl (chL z) μ) := if_pos h
theorem srtS_mem (ws : List (List Nat)) (x : List Nat) : x ∈ srtS ws ↔ x ∈ ws := (List.mergeSort_perm ws _).mem_iff
theorem srtS_len (ws : List (List Nat)) : (srtS ws).length = ws.length := List.length_mergeSort ..
/-- sorted again is the same -/
theorem srtS_tot : PySem.W.TotalLe (fun a b : List Nat => PySem.W.dataLe false encS (S a) (S b)) := PySem.W.sortLe_total (α := List Nat) (PyProof.Rows.listOrd PyProof.Rows.itemOrd) false fun a : List Nat => PySem.W.keyToks (encS (S a))
theorem srtS_idem (ws : List (List Nat)) : srtS (srtS ws) = srtS ws := by
  unfold srtS
  exact List.mergeSort_of_pairwise (List.pairwise_mergeSort srtS_tot.trans (fun a b => by have := srtS_tot.total a b; simpa using this) ws)
end Lr

/-! Lr, part 23: str.count, str.find, dict(d). -/
namespace Lr
open PySem L2
section
variable {nm : Nm} {X : Cx} {W : XW}
def mCount : FM := fun d ds μ => match d, ds with
  | .str x, [.str y] => .ok (.int (Txt.count (S x) (S y)), μ)
  | _, _ => .no
theorem opm_count : OpM nm X W mCount (fun x xs H Q => ∃ a b, x = .str a ∧ xs = [.str b] ∧ Q (.int (Txt.count a b)) H) := by
  intro env μ σ H ρ G Q d ds v vs R rv r P
  unfold mCount at P
  split at P
  · obtain ⟨rfl, _⟩ := rv
    obtain ⟨w, r0, rfl, rw', hr⟩ := r
    cases hr
    obtain ⟨rfl, _⟩ := rw'
    exact ⟨_, _, rfl, rfl, P _ H ρ G .refl R rfl⟩
  · exact P.elim
def mFind : FM := fun d ds μ => match d, ds with
  | .str x, [.str y] => .ok (.int (Txt.find (S x) (S y)), μ)
  | _, _ => .no
theorem opm_find : OpM nm X W mFind (fun x xs H Q => ∃ a b, x = .str a ∧ xs = [.str b] ∧ Q (.int (Txt.find a b)) H) := by
  intro env μ σ H ρ G Q d ds v vs R rv r P
  unfold mFind at P
  split at P
  · obtain ⟨rfl, _⟩ := rv
    obtain ⟨w, r0, rfl, rw', hr⟩ := r
    cases hr
    obtain ⟨rfl, _⟩ := rw'
    exact ⟨_, _, rfl, rfl, P _ H ρ G .refl R rfl⟩
  · exact P.elim
/-- dict(d), a copy -/
def dDict (fl : Bool) : FN := fun ds μ => match ds with
  | [d] => match dof d μ with
    | some (.dic kvs) => .ok (mkD fl (.dic kvs) μ)
    | _ => .no
  | _ => .no
theorem opn_dict {fl : Bool} : OpN nm X W (dDict fl) (fun xs H Q => ∃ (a : Addr) (kvs : List (Key × V)), xs = [.ref a] ∧ Rd H a (.dK kvs) ∧ ∀ p, H p = none → Q (.ref p) (upd H p (.dK kvs))) := by
  intro env μ σ H ρ G Q ds vs R r P
  unfold dDict at P
  split at P
  · split at P
    · rename_i e0
      obtain ⟨v, r0, rfl, rv, hr⟩ := r
      cases hr
      obtain ⟨a, rfl, ⟨_, ks, e2, hh, rk⟩ | ⟨_, ks, e2, hh, rk⟩⟩ := dof_ok R rv e0
      · cases e2
        refine ⟨a, ks, rfl, .inl hh, fun p hp => ?_⟩
        cases fl with
        | true =>
          have hpre : Pre ρ (ρ ++ [p]) := ⟨[p], rfl⟩
          obtain ⟨R2, e2, g⟩ := R.newCell (o := .dK ks) (d := .dic _) hp ⟨ks, upd_same, repk.mono (Same.refl _) hpre _ _ rk⟩
          exact P _ _ _ _ e2 R2 ⟨p, g, rfl⟩
        | false =>
          obtain ⟨R2, e2⟩ := R.laidG (.dK ks) hp
          exact P _ _ ρ _ e2 R2 ⟨p, ks, rfl, upd_same, repk.mono e2.sub e2.pre _ _ rk⟩
      · cases e2
    · exact P.elim
  · exact P.elim
end
end Lr

/-! Lr, part 24: slices of lists with a step. -/
namespace Lr
open PySem L2 PySem.Spec
open PyProof.Rows hiding St
def pickI (n : Nat) (lo hi : Option Int) (st : Int) : List Nat := sliceRange (sliceBounds lo hi (some st) n).1 (sliceBounds lo hi (some st) n).2.1 (sliceBounds lo hi (some st) n).2.2
def pickL {α : Type} (xs : List α) (lo hi : Option Int) (st : Int) : List α := (pickI xs.length lo hi st).filterMap (xs[·]?)
theorem reps_pick {t : Ct} {G : Hp} {ρ : List Addr} {ds : List D} {vs : List V} (h : reps t G ρ ds vs) : ∀ is : List Nat, reps t G ρ (is.filterMap (ds[·]?)) (is.filterMap (vs[·]?))
  | [] => rfl
  | i :: is => by
    rw [List.filterMap_cons, List.filterMap_cons]
    cases hd : ds[i]? with
    | none =>
      have : vs[i]? = none := by
        rw [List.getElem?_eq_none_iff] at hd ⊢
        rw [h.length]; exact hd
      rw [this]
      exact reps_pick h is
    | some d =>
      obtain ⟨v, e, r⟩ := h.get hd
      rw [e]
      exact ⟨v, _, rfl, r, reps_pick h is⟩
theorem vals_pick {vs : List V} {us : List Value} (h : Vals vs us) : ∀ is : List Nat, Vals (is.filterMap (vs[·]?)) (is.filterMap (us[·]?))
  | [] => .nil
  | i :: is => by
    rw [List.filterMap_cons, List.filterMap_cons]
    cases hd : vs[i]? with
    | none =>
      have : us[i]? = none := by
        rw [List.getElem?_eq_none_iff] at hd ⊢
        rw [← h.length]; exact hd
      rw [this]
      exact vals_pick h is
    | some d =>
      obtain ⟨v, e, r⟩ := h.get hd
      rw [e]
      exact .cons r (vals_pick h is)
def cSlL (fl : Bool) (st : Int) (a : M) (lo hi : MO) : M := fun env μ => (a env μ).bind fun x => (lo env x.2).bind fun l => (hi env l.2).bind fun h => match lof x.1 h.2 with
  | some xs => .ok (mkL fl (pickL xs l.1 h.1 st) h.2)
  | none => .no
section
variable {nm : Nm} {X : Cx} {W : XW} {a : Expr} {pos p2 : Pos} {ma : M} {lo hi : Option Expr} {ml mh : MO}
theorem ev_slL (fl : Bool) {st : Expr} {n : Int} (h1 : n ≠ 0) (hst : ∀ (σ : St) (H : Hp), wpO X (some st) σ H (fun o H' => o = some n ∧ H' = H))
    (ha : EV nm X W a ma) (hl : OV nm X W lo ml) (hh : OV nm X W hi mh) : EV nm X W (.Subscript a (.Slice lo hi (some st) p2) pos) (cSlL fl n ma ml mh) := by
  refine ⟨fun env μ σ H ρ G Q R P pins s I => ?_⟩
  refine Subscript_ (thn (ha.run env μ σ H ρ G (fun x H1 => wpO X lo σ H1 fun l H2 => wpO X hi σ H2 fun u H3 => ∃ b xs, x = .ref b ∧ SqL X.K H3 b xs ∧ ∀ p, H3 p = none → Q (.ref p) (upd H3 p (.lst (pickL xs l u n)))) R ?_ pins s I) fun v s1 ⟨x, H1, I1, r1, q1⟩ => ?_)
  · refine (Po.bind P).imp (fun x hx v H1 ρ1 G1 e1 R1 r1 => ?_) fun _ _ _ h => h
    refine hl.run env x.2 σ H1 ρ1 G1 _ R1 ((Po.bind (Po.reE e1 hx)).imp (fun y hy H2 ρ2 G2 e2 R2 => ?_) fun _ _ _ h => h)
    refine hh.run env y.2 σ H2 ρ2 G2 _ R2 ((Po.bind (Po.reE e2 hy)).imp (fun z hz H3 ρ3 G3 e3 R3 => ?_) fun _ _ _ h => h)
    split at hz
    · rename_i xs e0
      obtain ⟨b, vs, rfl, q, rs⟩ := lof_ok R3 (e3.rep (e2.rep r1)) e0
      refine ⟨b, vs, rfl, q, ?_⟩
      have hr : reps (ct nm X) G3 ρ3 (pickL xs y.1 z.1 n) (pickL vs y.1 z.1 n) := by
        unfold pickL
        rw [rs.length]
        exact reps_pick rs _
      exact new_L R3 hr (Po.reE e3 hz)
    · exact hz.elim
  · refine wpAny_Slice (thn (q1 pins s1 I1) fun vl s2 ⟨l, H2, I2, pl, q2⟩ => thn (q2 pins s2 I2) fun vu s3 ⟨u, H3, I3, pu, q3⟩ => thn (hst σ H3 pins s3 I3) fun vs s4 ⟨o, H4, I4, ps, eo, e4⟩ => ?_)
    subst eo e4
    obtain ⟨b, xs, rfl, hx, q⟩ := q3
    cases r1
    have I5 : Inv X pins σ H4 { s4 with heap := s4.heap.push { cls := .type "slice", data := .fields #[vl, vu, vs] } } := I4.kept (t' := s4.toks) fun b ob q => Heap.get?_push_of_some _ q
    obtain ⟨its, r, ht, hz⟩ := I5.list hx
    have hlen := r.length
    refine tail_any (ops := [.ref b, .ref s4.heap.objs.size]) ht.isList.typeIs slot_list_getitem.lookup ?_ (by with_unfolding_all rfl)
    refine wpAny_getItem_list_slice (lo := l) (hi := u) (st := some n) ht.isList (Heap.IsSliceOf.new s4.heap vl vu vs) pl pu ps (by simpa using h1) ?_ (by rw [List.size_toArray] <;> omega)
    have hp : slicePick its.toArray l u (some n) = (pickL its l u n).toArray := by
      unfold slicePick pickL pickI
      simp
    rw [hp]
    have hv : Vals (pickL xs l u n) (pickL its l u n) := by
      unfold pickL
      rw [hlen]
      exact vals_pick r _
    have hsz : (pickL xs l u n).length ≤ sizeLine := by
      have := slicePick_size_le its.toArray l u (some n)
      rw [hp, List.size_toArray, List.size_toArray] at this
      rw [hv.length]; omega
    refine ⟨.ref _, _, I5.laid (t' := s4.toks) (o := .lst (pickL xs l u n)) (fun b ob q => Heap.get?_push_of_some _ q) (Nat.le_refl _) ?_, rfl, q _ (I5.hok.fresh (Nat.le_refl _))⟩
    exact ⟨hsz, _, 0, hv, Heap.get?_push_size _ rfl⟩
theorem ev_slLc (fl : Bool) {n : Int} {k : Nat} {p3 : Pos} (ha : EV nm X W a ma) (hl : OV nm X W lo ml) (hh : OV nm X W hi mh) (h1 : n ≠ 0 := by decide) : EV nm X W (.Subscript a (.Slice lo hi (some (.Constant (.int n) k p3)) p2) pos) (cSlL fl n ma ml mh) :=
  ev_slL fl h1 (fun σ H pins s I => (po_some pe_int).run pins s σ H (fun o H4 => o = some n ∧ H4 = H) I ⟨n, rfl, rfl, rfl⟩) ha hl hh
end
end Lr

/-! Lr, part 25: dict.get, dict.pop, dict.clear, list.remove of a text; a def that calls itself. -/
namespace Lr
open PySem L2 PySem.Spec
open PyProof.Rows hiding St
section
variable {nm : Nm} {X : Cx} {W : XW}
def mGet2 : FM := fun d ds μ => match ds with
  | [k, z] => match (dof d μ).bind fun dd => dLook dd k with
    | some o => .ok (o.getD z, μ)
    | none => .no
  | _ => .no
def rDGet2 : V → List V → Hp → VK → Prop := fun x vs H Q => ∃ a y z o, x = .ref a ∧ vs = [y, z] ∧ DGet H a y o ∧ Q (o.getD z) H
theorem mtd_get2 (hu : X.A.units + 65 < cLine) : MtR X "dict.get" rDGet2 := by
  intro pins s σ H x vs v us Q I rx rv h
  obtain ⟨a, y, z, o, rfl, rfl, g, q⟩ := h
  obtain rfl : v = Value.ref a := rx
  obtain ⟨u1, u2, rfl, r1, r2⟩ := vals2 rv
  exact d_get2 (by omega) I g r1 r2 fun w' s4 I4 rw' => ⟨_, H, I4, rw', q⟩
theorem opm_get2 : OpM nm X W mGet2 rDGet2 := by
  intro env μ σ H ρ G Q d ds v vs R rv r P
  unfold mGet2 at P
  split at P
  · rename_i k z
    obtain ⟨w, r0, rfl, rk, u, r1, rfl, rz, hr⟩ := r
    cases hr
    split at P
    · rename_i o e
      obtain ⟨dd, e1, e2⟩ := Option.bind_eq_some_iff.mp e
      obtain ⟨a, ov, rfl, g, hs, hx⟩ := dLook_ok R rv rk e1 e2
      refine ⟨a, w, u, ov, rfl, rfl, g, ?_⟩
      cases o with
      | none =>
        have : ov = none := by simpa using hs
        subst this
        exact P _ H ρ G .refl R rz
      | some x =>
        obtain ⟨y, rfl, ry⟩ := hx x rfl
        exact P _ H ρ G .refl R ry
    · exact P.elim
  · exact P.elim
def mGet1 : FM := fun d ds μ => match ds with
  | [k] => match (dof d μ).bind fun dd => dLook dd k with
    | some o => .ok (o.getD .non, μ)
    | none => .no
  | _ => .no
def rDGet1 : V → List V → Hp → VK → Prop := fun x vs H Q => ∃ a y o, x = .ref a ∧ vs = [y] ∧ DGet H a y o ∧ Q (o.getD .non) H
theorem mtd_get1 (hu : X.A.units + 65 < cLine) : MtR X "dict.get" rDGet1 := by
  intro pins s σ H x vs v us Q I rx rv h
  obtain ⟨a, y, o, rfl, rfl, g, q⟩ := h
  obtain rfl : v = Value.ref a := rx
  obtain ⟨u1, rfl, r1⟩ := rv.one
  exact d_get1 (by omega) I g r1 fun w' s4 I4 rw' => ⟨_, H, I4, rw', q⟩
theorem opm_get1 : OpM nm X W mGet1 rDGet1 := by
  intro env μ σ H ρ G Q d ds v vs R rv r P
  unfold mGet1 at P
  split at P
  · rename_i k
    obtain ⟨w, r0, rfl, rk, hr⟩ := r
    cases hr
    split at P
    · rename_i o e
      obtain ⟨dd, e1, e2⟩ := Option.bind_eq_some_iff.mp e
      obtain ⟨a, ov, rfl, g, hs, hx⟩ := dLook_ok R rv rk e1 e2
      refine ⟨a, w, ov, rfl, rfl, g, ?_⟩
      cases o with
      | none =>
        have : ov = none := by simpa using hs
        subst this
        exact P _ H ρ G .refl R rfl
      | some x =>
        obtain ⟨y, rfl, ry⟩ := hx x rfl
        exact P _ H ρ G .refl R ry
    · exact P.elim
  · exact P.elim
/-! dict.pop(k), k there -/
def dropD (kvs : List (D × D)) (k : D) : List (D × D) := kvs.filter fun p => !kEq p.1 k
theorem drop_k {t : Ct} {G : Hp} {ρ : List Addr} {k : D} {k' : Key} (hk : keyOf k = some k') : ∀ {kvs : List (D × D)} {ks : List (Key × V)}, repk t G ρ kvs ks → repk t G ρ (dropD kvs k) (dropK ks k')
  | [], _, h => by cases h; rfl
  | (a, d) :: r, _, ⟨x, v, r', e, hx, h1, h2⟩ => by
    subst e
    have ih := drop_k hk h2
    have hq := keyOf_eq hx hk
    unfold dropD dropK at ih ⊢
    by_cases c : x = k'
    · rw [List.filter_cons_of_neg (by rw [hq]; simpa using c), List.filter_cons_of_neg (by simpa using c)]
      exact ih
    · rw [List.filter_cons_of_pos (by rw [hq]; simpa using c), List.filter_cons_of_pos (by simpa using c)]
      exact ⟨x, v, _, rfl, hx, h1, ih⟩
def mPopD : FM := fun d ds μ => match d, ds with
  | .ref n, [k] => match μ[n]? with
    | some (.dic kvs) => if isK k = true then match look kvs k with
      | some x => .ok (x, μ.set n (.dic (dropD kvs k)))
      | none => .no
      else .no
    | _ => .no
  | _, _ => .no
def rPopD : V → List V → Hp → VK → Prop := fun x vs H Q => ∃ (a : Addr) (kvs : List (Key × V)) (k : Key) (v : V), x = .ref a ∧ vs = [kV k] ∧ H a = some (.dK kvs) ∧ valV kvs k = some v ∧ Q v (upd H a (.dK (dropK kvs k)))
theorem mtd_pop1 : MtR X "dict.pop" rPopD := by
  intro pins s σ H x vs v us Q I rx rv h
  obtain ⟨a, kvs, k, y, rfl, rfl, e, l, q⟩ := h
  obtain rfl : v = Value.ref a := rx
  obtain ⟨u1, rfl, r1⟩ := rv.one
  exact d_pop I e r1 l (.inl rfl) fun w' s3 I3 rw' => ⟨y, _, I3, rw', q⟩
theorem opm_popD : OpM nm X W mPopD rPopD := by
  intro env μ σ H ρ G Q d ds v vs R rv r P
  unfold mPopD at P
  split at P
  · rename_i n k
    obtain ⟨a, ea, rfl⟩ := rv
    obtain ⟨w, r0, rfl, rk, hr⟩ := r
    cases hr
    split at P
    · rename_i kvs q
      obtain ⟨ks, h, rs⟩ := R.cells n a _ ea q
      split at P
      · rename_i hk
        obtain ⟨k', q1, rfl⟩ := rep_key rk hk
        split at P
        · rename_i x hx
          obtain ⟨y, l, ry⟩ := (look_k q1 rs).1 x hx
          obtain ⟨R2, e2⟩ := R.setCell (o := .dK (dropK ks k')) (d := .dic (dropD kvs k)) ea ⟨_, upd_same, drop_k q1 rs⟩
          exact ⟨a, ks, k', y, rfl, rfl, h, l, P y _ ρ G e2 R2 ry⟩
        · exact P.elim
      · exact P.elim
    · exact P.elim
  · exact P.elim
def mClearD : FM := fun d ds μ => match d, ds with
  | .ref n, [] => match μ[n]? with
    | some (.dic _) => .ok (.non, μ.set n (.dic []))
    | _ => .no
  | _, _ => .no
theorem opm_clearD : OpM nm X W mClearD rDClear := by
  intro env μ σ H ρ G Q d ds v vs R rv r P
  unfold mClearD at P
  split at P
  · rename_i n
    obtain ⟨a, ea, rfl⟩ := rv
    cases r
    split at P
    · rename_i kvs q
      obtain ⟨ks, h, rs⟩ := R.cells n a _ ea q
      obtain ⟨R2, e2⟩ := R.setCell (o := .dK []) (d := .dic []) ea ⟨_, upd_same, rfl⟩
      exact ⟨a, ks, rfl, rfl, h, P .non _ ρ G e2 R2 rfl⟩
    · exact P.elim
  · exact P.elim
end
/-! list.remove of a text -/
def eqs (x : Str) (v : Value) : Bool := match v with
  | .str z _ => z.cps.toList == x.cps.toList
  | _ => false
def textsOf : List D → Option (List (List Nat))
  | [] => some []
  | .str x :: r => (textsOf r).map (x :: ·)
  | _ => none
theorem textsOf_strs (ws : List (List Nat)) : textsOf (ws.map D.str) = some ws := by
  induction ws with
  | nil => rfl
  | cons w r ih => show (textsOf (r.map D.str)).map (w :: ·) = _; rw [ih]; rfl
theorem textsOf_eq : ∀ {ds : List D} {ws : List (List Nat)}, textsOf ds = some ws → ds = ws.map D.str
  | [], _, h => by cases h; rfl
  | d :: r, ws, h => by
    cases d <;> simp [textsOf] at h
    obtain ⟨l, h1, rfl⟩ := h
    rw [textsOf_eq h1]; rfl
theorem eqs_gives {x : Str} {t : Tok} : ∀ {us : List Value} {ws : List (List Nat)}, Vals ((ws.map S).map V.str) us → ∀ y ∈ us, MeetsSeq.EqGives y (.str x t) (eqs x y)
  | _, [], h => fun y hy => by cases h; cases hy
  | _, w :: ws, h => fun y hy => by
    cases h with
    | cons h1 h2 =>
      rcases List.mem_cons.mp hy with e | e
      · rw [e]
        obtain ⟨t', rfl⟩ := h1
        exact SeqRoads2.EqGives.str (S w) x t' t
      · exact eqs_gives h2 y e
theorem reps_texts {t : Ct} {G : Hp} {ρ : List Addr} : ∀ {ws : List (List Nat)} {vs : List V}, reps t G ρ (ws.map D.str) vs → vs = (ws.map S).map V.str
  | [], _, h => by cases h; rfl
  | w :: ws, _, ⟨v, r, e, h1, h2⟩ => by
    subst e
    obtain ⟨rfl, _⟩ := h1
    rw [reps_texts h2]; rfl
theorem vals_at : ∀ {us : List Value} {ws : List (List Nat)} {j : Nat} {w : List Nat}, Vals ((ws.map S).map V.str) us → ws[j]? = some w → ∃ t, us[j]? = some (.str (S w) t)
  | _, [], j, w, h, e => by simp at e
  | _, z :: ws, j, w, h, e => by
    cases h with
    | cons h1 h2 =>
      cases j with
      | zero => cases e; obtain ⟨t', rfl⟩ := h1; exact ⟨t', rfl⟩
      | succ j =>
        obtain ⟨t, q⟩ := vals_at (j := j) (ws := ws) h2 (by simpa using e)
        exact ⟨t, by simpa using q⟩
theorem eraseIdx_map {α β : Type} (f : α → β) : ∀ (l : List α) (j : Nat), (l.map f).eraseIdx j = (l.eraseIdx j).map f
  | [], j => by simp
  | a :: r, 0 => by simp
  | a :: r, j + 1 => by
    have ih := eraseIdx_map f r j
    simp [ih]
section
variable {nm : Nm} {X : Cx} {W : XW}
def rRemS : V → List V → Hp → VK → Prop := fun x xs H Q => ∃ (l : Addr) (ws : List (List Nat)) (k : List Nat) (j : Nat), x = .ref l ∧ xs = [.str (S k)] ∧ H l = some (.lst ((ws.map S).map V.str)) ∧ ws[j]? = some k ∧ (∀ m : Nat, m < j → ws[m]? ≠ some k) ∧ Q .non (upd H l (.lst (((ws.eraseIdx j).map S).map V.str)))
theorem mt_removeS : MtM X "list.remove" rRemS := by
  intro pins s σ H x xs v us Q I rx rxs h
  obtain ⟨l, ws, k, j, rfl, rfl, hH, hj, hno, q⟩ := h
  cases rx
  obtain ⟨u, rfl, ru⟩ := rxs.one
  obtain ⟨t, rfl⟩ := ru
  obtain ⟨z, its, n, r, hl, e⟩ := I.lstM hH
  rw [List.length_map, List.length_map] at hl z
  have hjn : j < ws.length := (List.getElem?_eq_some_iff.mp hj).1
  have hjl : j < its.toArray.size := by rw [List.size_toArray]; omega
  refine call_meets PySem.F.slot_list_remove ⟨_, e, rfl⟩ PySem.F.entry_list_remove (PySem.F.args_list_remove_2 _ _)
    (MeetsSeq.list_remove l its.toArray n (.str (S k) t) (eqs (S k)) (fun y hy => eqs_gives r y (by simpa using hy)) j hjl ?_ ?_ (by rw [List.size_toArray]; omega)) ⟨e, ?_⟩
  · obtain ⟨tj, hjt⟩ := vals_at r hj
    obtain ⟨h1, h2⟩ := List.getElem?_eq_some_iff.mp hjt
    have e1 : its.toArray[j] = .str (S k) tj := by simpa using h2
    rw [e1]
    exact beq_self_eq_true _
  · intro m hm hmj
    have hmn : m < ws.length := by omega
    obtain ⟨tm, hmt⟩ := vals_at r (List.getElem?_eq_getElem hmn)
    obtain ⟨h1, h2⟩ := List.getElem?_eq_some_iff.mp hmt
    have e1 : its.toArray[m] = .str (S ws[m]) tm := by simpa using h2
    rw [e1]
    refine beq_eq_false_iff_ne.mpr fun e2 => hno m hmj ?_
    rw [List.getElem?_eq_getElem hmn]
    rw [S_cps, S_cps] at e2
    rw [e2]
  · have rr := r.eraseIdx j
    rw [eraseIdx_map, eraseIdx_map] at rr
    refine ⟨.non, _, I.lset (its' := its.eraseIdx j) (t' := s.toks) hH e ?_ rr ?_, rfl, q⟩
    · show its.toArray.eraseIdxIfInBounds j = (its.eraseIdx j).toArray
      rw [List.eraseIdxIfInBounds_toArray]
    · rw [List.length_map, List.length_map]
      have := List.length_eraseIdx_le ws j
      omega
def mRemove : FM := fun d ds μ => match d, ds with
  | .ref n, [.str k] => match μ[n]? with
    | some (.lst xs) => match textsOf xs with
      | some ws => if k ∈ ws then .ok (.non, μ.set n (.lst ((ws.erase k).map D.str))) else .no
      | none => .no
    | _ => .no
  | _, _ => .no
theorem reps_of_texts {t : Ct} {G : Hp} {ρ : List Addr} {ws : List (List Nat)} {vs : List V} (h : reps t G ρ (ws.map D.str) vs) (j : Nat) : reps t G ρ ((ws.eraseIdx j).map D.str) (((ws.eraseIdx j).map S).map V.str) := by
  have e := reps_texts h
  induction ws generalizing vs j with
  | nil => simp; rfl
  | cons w r ih =>
    obtain ⟨v, r', e1, h1, h2⟩ := h
    subst e1
    obtain ⟨rfl, o⟩ := h1
    have e2 := reps_texts h2
    subst e2
    cases j with
    | zero => exact h2
    | succ j => exact ⟨_, _, rfl, ⟨rfl, o⟩, ih h2 j rfl⟩
theorem erase_idx {ws : List (List Nat)} {k : List Nat} (h : k ∈ ws) : ∃ j, ws[j]? = some k ∧ (∀ m : Nat, m < j → ws[m]? ≠ some k) ∧ ws.erase k = ws.eraseIdx j := by
  induction ws with
  | nil => cases h
  | cons w r ih =>
    by_cases c : w = k
    · exact ⟨0, by rw [c]; rfl, fun m hm => by omega, by rw [c]; simp⟩
    · have hk : k ∈ r := by
        rcases List.mem_cons.mp h with e | e
        · exact absurd e.symm c
        · exact e
      obtain ⟨j, j1, j2, j3⟩ := ih hk
      refine ⟨j + 1, j1, fun m hm => ?_, ?_⟩
      · cases m with
        | zero => intro e; exact c (Option.some.inj e)
        | succ m => exact j2 m (by omega)
      · rw [List.erase_cons_tail (by simpa using c), j3]; rfl
theorem opm_remove : OpM nm X W mRemove rRemS := by
  intro env μ σ H ρ G Q d ds v vs R rv r P
  unfold mRemove at P
  split at P
  · rename_i n k
    obtain ⟨a, ea, rfl⟩ := rv
    obtain ⟨w, r0, rfl, rk, hr⟩ := r
    cases hr
    obtain ⟨rfl, _⟩ := rk
    split at P
    · rename_i xs q
      obtain ⟨us, h, rs⟩ := R.cells n a _ ea q
      split at P
      · rename_i ws hw
        cases textsOf_eq hw
        split at P
        · rename_i hk
          obtain ⟨j, j1, j2, j3⟩ := erase_idx hk
          rw [j3] at P
          have e := reps_texts rs
          obtain ⟨R2, e2⟩ := R.setCell (o := .lst (((ws.eraseIdx j).map S).map V.str)) (d := .lst ((ws.eraseIdx j).map D.str)) ea ⟨_, upd_same, reps_of_texts rs j⟩
          exact ⟨a, ws, k, j, rfl, rfl, by rw [h, e], j1, j2, P .non _ ρ G e2 R2 rfl⟩
        · exact P.elim
      · exact P.elim
    · exact P.elim
  · exact P.elim
end
/-! a def that calls itself -/
section
variable {P : Program} {w : World} {K : PySem.W.Frag} {mg : Str → Option Value} {base : Heap} {nm : Nm} {x : Str} {st : Stmt} {N ps : List Str} {k : Nat}
theorem def_no (S : DefSrc K mg x st) (sc : FnScope N ps (defScope st)) (hl : ps.length ≤ N.length) (bi : Bi st x x ps) : DefOk P w K mg base nm x k ps.length (fun _ _ => .no) := by
  obtain ⟨f, fd, F, hm⟩ := S
  exact ⟨f, fd, ps, ⟨fun vs H Q E h => h.elim fun _ h => h.elim fun _ h => h.elim fun _ h => h.elim fun _ h => h.2.2.2.elim, fun A outer s H args us vs Q E _ _ _ _ h => h.elim fun _ h => h.elim fun _ h => h.elim fun _ h => h.elim fun _ h => h.2.2.2.elim⟩, hm, F.kp, F.binds bi⟩
end
/-! a display of one pair, two constants -/
section
variable {nm : Nm} {X : Cx} {W : XW} {pos p1 p2 : Pos}
def cDisp1 (fl : Bool) (y : List Nat) (i : Int) : M := fun _ μ => .ok (mkD fl (.dic [(.str y, .int i)]) μ)
theorem ev_disp1 (fl : Bool) {x : Str} {j jj} (y : List Nat) (i : Int) (h : x.cps.toList = y := by decide +kernel) (ho : okS y = true := by decide +kernel) :
    EV nm X W (.Dict [some (.Constant (.str x) j p1)] [.Constant (.int i) jj p2] pos) (cDisp1 fl y i) := ev_of (pe_disp (pps_cons pe_str pe_int pps_nil) rfl rfl (by simp) (by simp)) fun env μ σ H ρ G Q R P => by
  have e : x = S y := by rw [← h, S_of]
  intro p hp
  refine ⟨upd_same, [(.inr x, .int i)], rfl, by simp, ?_⟩
  rw [upd_upd]
  have e1 : mergeK [] [((.inr x : Key), V.int i)] = [(.inr x, .int i)] := rfl
  rw [e1]
  have rk : ∀ (G' : Hp) (ρ' : List Addr), repk (ct nm X) G' ρ' [(.str y, .int i)] [(.inr x, .int i)] := fun G' ρ' => ⟨.inr x, .int i, [], rfl, by rw [e]; rfl, rfl, rfl⟩
  cases fl with
  | true =>
    obtain ⟨R2, e2, g⟩ := R.newCell (o := .dK [(.inr x, .int i)]) (d := .dic [(.str y, .int i)]) hp ⟨_, upd_same, rk _ _⟩
    exact P _ _ _ _ e2 R2 ⟨p, g, rfl⟩
  | false =>
    obtain ⟨R2, e2⟩ := R.laidG (.dK [(.inr x, .int i)]) hp
    exact P _ _ ρ _ e2 R2 ⟨p, [(.inr x, .int i)], rfl, upd_same, rk _ _⟩
end
end Lr

/-! Lr, part 26: evaluation: comprehensions over lists of the store, dict.get, dict.pop, list.remove, sorted signs. -/
namespace Lr
open PySem L2
theorem e_iValR {n : Nat} {μ : Mu} {xs : List D} (h : μ[n]? = some (.lst xs)) : kIV (.ok (.ref n, μ)) = .ok (.live (.ref n), μ) := by
  show (match μ[n]? with | some (.lst _) => Res.ok (Src.live (.ref n), μ) | _ => .no) = _
  rw [h]
theorem items_live {n : Nat} {μ : Mu} {ds : List D} (hn : μ[n]? = some (.lst ds)) : items (.live (.ref n)) μ = some ds := by
  show lof (.ref n) μ = _
  unfold lof
  dsimp only
  rw [hn]
theorem lcGo_live {T : Tg} {tst : MT} {elt : M} {ds : List D} {n : Nat} {env : Ev} {μ : Mu} (hn : μ[n]? = some (.lst ds))
    (h : ∀ d ∈ ds, ∃ e1, setT T d env = some e1 ∧ ∃ b, tst e1 μ = .ok (b, μ) ∧ (b = true → ∃ y, elt e1 μ = .ok (y, μ))) : ∀ f i acc, lcGo T tst elt (.live (.ref n)) env f i acc μ = lcGo T tst elt (.fix ds) env f i acc μ
  | 0, i, acc => rfl
  | f + 1, i, acc => by
    have it1 := items_live hn
    have ih := lcGo_live hn h f (i + 1)
    unfold lcGo
    rw [it1]
    simp only [items]
    cases hd : ds[i]? with
    | none => rfl
    | some d =>
      obtain ⟨e1, h1, b, h2, h3⟩ := h d (List.mem_of_getElem? hd)
      simp only [h1, h2]
      cases b with
      | false => exact ih acc
      | true =>
        obtain ⟨y, h4⟩ := h3 rfl
        simp only [h4]
        split
        · exact ih _
        · rfl
theorem m_get2K {kvs : List (D × D)} {k z : D} {μ : Mu} (h : isK k = true) : mGet2 (.dic kvs) [k, z] μ = .ok ((look kvs k).getD z, μ) := by
  have e : dLook (.dic kvs) k = some (look kvs k) := if_pos h
  show (match dLook (.dic kvs) k with | some o => Res.ok (o.getD z, μ) | none => .no) = _
  rw [e]
theorem m_get2R {kvs : List (D × D)} {k z : D} {n : Nat} {μ : Mu} (hn : μ[n]? = some (.dic kvs)) (h : isK k = true) : mGet2 (.ref n) [k, z] μ = .ok ((look kvs k).getD z, μ) := by
  have e : dLook (.dic kvs) k = some (look kvs k) := if_pos h
  have e1 : dof (.ref n) μ = some (.dic kvs) := by unfold dof; dsimp only; rw [hn]
  show (match (dof (.ref n) μ).bind (fun dd => dLook dd k) with | some o => Res.ok (o.getD z, μ) | none => .no) = _
  rw [e1]
  show (match dLook (.dic kvs) k with | some o => Res.ok (o.getD z, μ) | none => .no) = _
  rw [e]
theorem look_setG {x : List Nat} {ws : List (List Nat)} (h : x ∈ ws) : look (setD ws) (.str x) = some (.bl true) := by
  have e : (look (setD ws) (.str x)).isSome = true := by rw [look_set]; exact decide_eq_true h
  obtain ⟨v, hv⟩ := Option.isSome_iff_exists.mp e
  unfold look setD at hv
  cases q : (ws.map fun w => (D.str w, D.bl true)).find? (fun p => kEq p.1 (.str x)) with
  | none => rw [q] at hv; cases hv
  | some p =>
    obtain ⟨w, _, rfl⟩ := List.mem_map.mp (List.mem_of_find?_eq_some q)
    unfold look setD
    rw [q]; rfl
theorem dropD_set (ws : List (List Nat)) (x : List Nat) : dropD (setD ws) (.str x) = setD (ws.filter fun w => !decide (w = x)) := by
  unfold dropD setD
  rw [List.filter_map]
  rfl
theorem m_popS {ws : List (List Nat)} {x : List Nat} {n : Nat} {μ : Mu} (hn : μ[n]? = some (.dic (setD ws))) (h : x ∈ ws) : mPopD (.ref n) [.str x] μ = .ok (.bl true, μ.set n (.dic (setD (ws.filter fun w => !decide (w = x))))) := by
  unfold mPopD
  simp only [hn, look_setG h, dropD_set]
  rfl
theorem m_remS {ws : List (List Nat)} {x : List Nat} {n : Nat} {μ : Mu} (hn : μ[n]? = some (.lst (ws.map D.str))) (h : x ∈ ws) : mRemove (.ref n) [.str x] μ = .ok (.non, μ.set n (.lst ((ws.erase x).map D.str))) := by
  unfold mRemove
  simp only [hn, textsOf_strs]
  rw [if_pos h]
theorem d_sortAR {fl : Bool} {ws : List (List Nat)} {n : Nat} {μ : Mu} (hn : μ[n]? = some (.lst (ws.map D.str))) (h : ws.length ≤ lineN) : dSortA fl [.ref n] μ = .ok (mkL fl ((srtS ws).map D.str) μ) := by
  have e : dof (.ref n) μ = none := by unfold dof; dsimp only; rw [hn]
  unfold dSortA
  simp only [e]
  unfold dSortL
  have e2 : lof (.ref n) μ = some (ws.map D.str) := by unfold lof; dsimp only; rw [hn]
  simp only [e2]
  rw [if_pos (okSort_strs h), srtS_D]
/-! the signs of a text, sorted -/
theorem encC_le (a b : Nat) : PySem.W.dataLe false encC a b = decide (a ≤ b) := by
  have h1 : PySem.W.dataLe false encC a b = PySem.W.dataLe false encS (S [a]) (S [b]) := rfl
  have e : PySem.W.dataLe false encS = fun a b : Str => decide (a.cps.toList ≤ b.cps.toList) := PySem.W.dataLe_str fun z : Str => z
  rw [h1, e]
  show decide ((S [a]).cps.toList ≤ (S [b]).cps.toList) = _
  rw [S_cps, S_cps]
  apply decide_eq_decide.mpr
  rw [List.cons_le_cons_iff]
  simp
  omega
theorem srtC_ord (z : List Nat) : (srtC z).Pairwise (· ≤ ·) := by
  have e : PySem.W.dataLe false encC = fun a b => decide (a ≤ b) := by funext a b; exact encC_le a b
  unfold srtC
  rw [e]
  refine (List.pairwise_mergeSort (fun a b c => by simp; omega) (fun a b => by simp; omega) z).imp ?_
  intro a b h
  simpa using h
theorem srtC_perm (z : List Nat) : (srtC z).Perm z := List.mergeSort_perm z _
theorem ord_perm_eq : ∀ {A B : List Nat}, A.Pairwise (· ≤ ·) → B.Pairwise (· ≤ ·) → A.Perm B → A = B := fun hA hB p => p.eq_of_pairwise (le := (· ≤ ·)) (fun a b _ _ h1 h2 => Nat.le_antisymm h1 h2) hA hB
theorem srtC_perm_eq {y z : List Nat} (h : y.Perm z) : srtC y = srtC z := ord_perm_eq (srtC_ord y) (srtC_ord z) ((srtC_perm y).trans (h.trans (srtC_perm z).symm))
theorem srtC_rev (z : List Nat) : srtC z.reverse = srtC z := srtC_perm_eq (List.reverse_perm z)
theorem srtC_idem (z : List Nat) : srtC (srtC z) = srtC z := srtC_perm_eq (srtC_perm z)
/-! texts in strict order -/
theorem ord_tri {a b : List Nat} (h : ¬ a < b) (h2 : a ≠ b) : b < a := Classical.byContradiction fun q => h2 (List.le_antisymm (List.not_lt.mp q) (List.not_lt.mp h))
theorem ord_unique : ∀ A B : List (List Nat), A.Pairwise (· < ·) → B.Pairwise (· < ·) → (∀ x, x ∈ A ↔ x ∈ B) → A = B
  | [], [], _, _, _ => rfl
  | [], b :: B, _, _, h => absurd ((h b).mpr (by simp)) (by simp)
  | a :: A, [], _, _, h => absurd ((h a).mp (by simp)) (by simp)
  | a :: A, b :: B, hA, hB, h => by
    rw [List.pairwise_cons] at hA hB
    have e : a = b := by
      rcases List.mem_cons.mp ((h a).mp (by simp)) with z | z
      · exact z
      · rcases List.mem_cons.mp ((h b).mpr (by simp)) with w | w
        · exact w.symm
        · exact absurd (hA.1 b w) (List.lt_asymm (hB.1 a z))
    subst e
    rw [ord_unique A B hA.2 hB.2 fun x => ?_]
    constructor
    · intro hx
      rcases List.mem_cons.mp ((h x).mp (by simp [hx])) with z | z
      · have y := hA.1 x hx
        rw [z] at y
        exact absurd y (List.lt_irrefl a)
      · exact z
    · intro hx
      rcases List.mem_cons.mp ((h x).mpr (by simp [hx])) with z | z
      · have y := hB.1 x hx
        rw [z] at y
        exact absurd y (List.lt_irrefl a)
      · exact z
theorem le_S (a b : List Nat) : PySem.W.dataLe false encS (S a) (S b) = decide (a ≤ b) := by
  have e : PySem.W.dataLe false encS = fun a b : Str => decide (a.cps.toList ≤ b.cps.toList) := PySem.W.dataLe_str fun z : Str => z
  rw [e]
  show decide ((S a).cps.toList ≤ (S b).cps.toList) = _
  rw [S_cps, S_cps]
theorem srtS_ord {ws : List (List Nat)} (hn : ws.Nodup) : (srtS ws).Pairwise (· < ·) := by
  have p1 : (srtS ws).Pairwise fun a b => PySem.W.dataLe false encS (S a) (S b) = true := List.pairwise_mergeSort srtS_tot.trans (fun a b => by have := srtS_tot.total a b; simpa using this) ws
  have p2 : (srtS ws).Nodup := (List.mergeSort_perm ws _).nodup_iff.mpr hn
  refine (p1.and p2).imp fun {a b} ⟨x, y⟩ => ?_
  rw [le_S, decide_eq_true_eq] at x
  exact Classical.byContradiction fun q => y (List.le_antisymm x (List.not_lt.mp q))
theorem srtS_uniq {F ws : List (List Nat)} (hn : ws.Nodup) (h : F.Pairwise (· < ·)) (h2 : ∀ x, x ∈ F ↔ x ∈ ws) : srtS ws = F := ord_unique _ _ (srtS_ord hn) h fun x => (srtS_mem _ _).trans (h2 x).symm
/-! others -/
theorem ne_self {d : D} {μ : Mu} (h : pd 20 d = true) : dNe d d μ = .ok (.bl false, μ) := by rw [d_ne h h, beqD_refl h]; rfl
theorem eq_self' {d : D} {μ : Mu} (h : pd 20 d = true) : dEq d d μ = .ok (.bl true, μ) := by rw [d_eq h h, beqD_refl h]
end Lr

/-! Lr, part 27: str.find bounded; dicts from signs to numbers. -/
namespace Lr
open PySem L2
theorem find_rng (x y : List Nat) : -1 ≤ Txt.find (S x) (S y) ∧ Txt.find (S x) (S y) ≤ x.length := by
  have e : (S x).length = x.length := S_len x
  have o := StrLaws.occ_head (S x) (S y) 1 (by decide)
  unfold Txt.find
  rcases o with ⟨h, _⟩ | ⟨i, r, h, a, _⟩
  · rw [h]; exact ⟨by decide, by show (-1 : Int) ≤ _; omega⟩
  · rw [h]
    have := a.1
    rw [e] at this
    exact ⟨by show (-1 : Int) ≤ (i : Int); omega, by show (i : Int) ≤ _; omega⟩
/-- a dict from signs to numbers -/
def KvI (kvs : List (D × D)) : Prop := ∀ p ∈ kvs, ∃ (c : Nat) (v : Int), p = (.str [c], .int v)
theorem KvI.nil : KvI [] := fun p h => absurd h List.not_mem_nil
theorem KvI.put {kvs : List (D × D)} (h : KvI kvs) (c : Nat) (v : Int) : KvI (putD kvs (.str [c]) (.int v)) := by
  unfold putD
  split
  · intro p hp
    obtain ⟨q, hq, rfl⟩ := List.mem_map.mp hp
    obtain ⟨c', v', rfl⟩ := h q hq
    by_cases z : kEq (.str [c']) (.str [c]) = true
    · rw [if_pos z]; exact ⟨_, _, rfl⟩
    · rw [if_neg z]; exact ⟨_, _, rfl⟩
  · intro p hp
    rcases List.mem_append.mp hp with z | z
    · exact h p z
    · exact ⟨c, v, List.mem_singleton.mp z⟩
theorem putD_len (kvs : List (D × D)) (k v : D) : (putD kvs k v).length ≤ kvs.length + 1 := by
  unfold putD
  split
  · rw [List.length_map]; omega
  · rw [List.length_append]; simp
/-- what stands at a sign, or nought -/
def valI (kvs : List (D × D)) (c : Nat) : Int := match look kvs (.str [c]) with
  | some (.int v) => v
  | _ => 0
theorem look_I {kvs : List (D × D)} (h : KvI kvs) (c : Nat) : (look kvs (.str [c])).getD (.int 0) = .int (valI kvs c) := by
  unfold valI
  cases e : look kvs (.str [c]) with
  | none => rfl
  | some d =>
    unfold look at e
    obtain ⟨p, hp, rfl⟩ := Option.map_eq_some_iff.mp e
    obtain ⟨c', v', rfl⟩ := h p (List.mem_of_find?_eq_some hp)
    rfl
theorem nrk_I : ∀ {kvs : List (D × D)}, KvI kvs → nrk kvs = true
  | [], _ => rfl
  | p :: r, h => by
    obtain ⟨c, v, rfl⟩ := h p (by simp)
    show (nr (.int v) && nrk r) = true
    rw [nrk_I fun q hq => h q (by simp [hq])]; rfl
theorem nr_dic {kvs : List (D × D)} : nr (.dic kvs) = nrk kvs := rfl
theorem m_getI {kvs : List (D × D)} (h : KvI kvs) {c : Nat} {μ : Mu} : mGet2 (.dic kvs) [.str [c], .int 0] μ = .ok (.int (valI kvs c), μ) := by rw [m_get2K rfl, look_I h]
theorem m_getIR {kvs : List (D × D)} (h : KvI kvs) {c n : Nat} {μ : Mu} (hn : μ[n]? = some (.dic kvs)) : mGet2 (.ref n) [.str [c], .int 0] μ = .ok (.int (valI kvs c), μ) := by rw [m_get2R hn rfl, look_I h]
theorem dSet_str {kvs : List (D × D)} {z : List Nat} {v : D} {n : Nat} {μ : Mu} (hn : μ[n]? = some (.dic kvs)) (hl : kvs.length < lineN) : dSet (.ref n) (.str z) v μ = some (μ.set n (.dic (putD kvs (.str z) v))) := by
  unfold dSet
  simp only [hn]
  rw [if_pos ⟨rfl, hl⟩]
theorem mapO_I {f : D → Option D} {kvs : List (D × D)} (hk : KvI kvs) (hf : ∀ v : Int, f (.int v) = some (.int v)) : mapO (fun p : D × D => (f p.2).map fun d => (p.1, d)) kvs = some kvs := mapO_id fun p hp => by
  obtain ⟨c, v, rfl⟩ := hk p hp
  rw [hf]; rfl
theorem vw_I {kvs : List (D × D)} {n : Nat} {μ : Mu} (h : μ[n]? = some (.dic kvs)) (hk : KvI kvs) : vw μ (.ref n) = some (.dic kvs) := by
  unfold vw
  rw [if_neg (by simp [nr])]
  show inl true μ (11 + 1) (.ref n) = _
  rw [inl]
  simp only [h]
  rw [mapO_I (f := inl true μ 11) hk fun _ => rfl]; rfl
theorem pureC_I {F : GF} {as : List D} {μ μ' : Mu} {n : Nat} {kvs : List (D × D)} (h : F as [] = .ok (.ref n, μ')) (h1 : nrs as = true) (h2 : μ'[n]? = some (.dic kvs)) (hk : KvI kvs) : pureC F as μ = .ok (.dic kvs, μ) := pureC_ok h h1 (vw_I h2 hk)
theorem makeF_II {c : Nat} {F : GF} {a b : List (D × D)} {μ : Mu} (ha : KvI a) (hb : KvI b) (h : F [.ref 0, .dic a, .dic b] [.obj c []] = .ok (.non, [.obj c [.dic a, .dic b]])) : makeF c F [.dic a, .dic b] μ = .ok (.obj c [.dic a, .dic b], μ) := by
  unfold makeF
  rw [if_pos (by rw [nrs_cons, nrs_cons, nr_dic, nr_dic, nrk_I ha, nrk_I hb]; rfl), h]
  dsimp only
  have e1 : ∀ {d : List (D × D)}, KvI d → inl true [D.obj c [.dic a, .dic b]] 11 (.dic d) = some (.dic d) := fun {d} hd => by
    show (if true = true then (mapO (fun p : D × D => (inl true [D.obj c [.dic a, .dic b]] 10 p.2).map fun d => (p.1, d)) d).map D.dic else none) = _
    rw [if_pos rfl, mapO_I (f := inl true [D.obj c [.dic a, .dic b]] 10) hd fun _ => rfl]; rfl
  have : inl true [D.obj c [.dic a, .dic b]] 12 (.ref 0) = some (.obj c [.dic a, .dic b]) := by
    show (mapO (inl true [D.obj c [.dic a, .dic b]] 11) [.dic a, .dic b]).map (D.obj c) = _
    rw [mapO_id fun z hz => by
      rcases List.mem_cons.mp hz with rfl | hz
      · exact e1 ha
      · rcases List.mem_cons.mp hz with rfl | hz
        · exact e1 hb
        · exact absurd hz List.not_mem_nil]
    rfl
  rw [this]
end Lr

/-! Lr, part 28: != of lists of dicts that are equal. -/
namespace PySem.SeqAt
open AutoSeq1 (wpAny_loadPart')
open MeetsSeq MeetsSeq2 MeetsSeq3 SeqRoads2
section
variable {prog : Program} {w : World}
theorem lr_ne_loopIn (l b : Addr) (items items2 : Array Value) (n n2 : Nat) (dd dd2 : Option Addr) (sl sl2 : Array (Option Value)) (hsz : items.size = items2.size) (e : Nat → Bool) (k : Nat) :
    ∀ i : Nat, items.size - i = k → MeetsIn prog w (Builtin.«list.__eq__.loop» ⟨[.ref l, .ref b, rawInt i, rawInt 3], []⟩)
      (fun A R s => s.heap.get? l = some { cls := .type "list", dict := dd, data := .seq items n, slots := sl } ∧ s.heap.get? b = some { cls := .type "list", dict := dd2, data := .seq items2 n2, slots := sl2 } ∧
        (∀ j (h1 : j < items.size) (h2 : j < items2.size), EqP prog w A.in1 s items[j] items2[j] (e j)) ∧
        R (.ok (.ret (.bool (!((List.range items.size).drop i).all e)))) s) := by
  induction k with
  | zero =>
    intro i hk A R s h
    obtain ⟨hp, g, d, tk, os⟩ := s; obtain ⟨hl, hb, he, h⟩ := h
    wp_walk using wpAny_loadPart' hl, wpAny_loadPart' hb
    have hi1 : items[((i : Nat) : Int).toNat]? = none := by simp; omega
    have hi2 : items2[((i : Nat) : Int).toNat]? = none := by simp; omega
    have hd : (List.range items.size).drop i = [] := by simp; omega
    rw [hd] at h
    rw [hi1, hi2]
    wp_walk using wpAny_loadPart' hl, wpAny_loadPart' hb
    show R (.ok (.ret (.bool (items.size != items2.size)))) _
    rw [hsz]
    simpa using h
  | succ k ih =>
    intro i hk A R s h
    obtain ⟨hp, g, d, tk, os⟩ := s; obtain ⟨hl, hb, he, h⟩ := h
    wp_walk using wpAny_loadPart' hl, wpAny_loadPart' hb
    have hlt : i < items.size := by omega
    have hlt2 : i < items2.size := by omega
    have hi1 : items[((i : Nat) : Int).toNat]? = some items[i] := by simp [hlt]
    have hi2 : items2[((i : Nat) : Int).toNat]? = some items2[i] := by simp [hlt2]
    have hd : (List.range items.size).drop i = i :: (List.range items.size).drop (i + 1) := by simp [List.drop_eq_getElem_cons, hlt]
    have hc : ((i : Int) + 1) = ((i + 1 : Nat) : Int) := by push_cast; rfl
    rw [hd, List.all_cons] at h
    rw [hi1, hi2]
    refine wpAny_bind (he i hlt hlt2 _ _ ?_)
    cases hb' : e i with
    | true =>
      rw [hb'] at h
      wp_walk
      rw [hc]
      exact ⟨plainId_quiet plain_eq_loop _, codeAny_builtin entry_eq_loop (by
        rw [Around.under_plainId plain_eq_loop _]
        exact ih (i + 1) (by omega) A R _ ⟨hl, hb, he, by simpa using h⟩)⟩
    | false =>
      rw [hb'] at h
      wp_walk using wpAny_loadPart' hl, wpAny_loadPart' hb
      rw [hi1, hi2]
      wp_walk
      simpa using h
theorem lr_list_neIn (l b : Addr) (items items2 : Array Value) (n n2 : Nat) (dd dd2 : Option Addr) (sl sl2 : Array (Option Value)) (hsz : items.size = items2.size) (e : Nat → Bool) :
    MeetsIn prog w (Builtin.«list.__ne__» ⟨[.ref l, .ref b], []⟩)
      (fun A R s => s.heap.get? l = some { cls := .type "list", dict := dd, data := .seq items n, slots := sl } ∧ s.heap.get? b = some { cls := .type "list", dict := dd2, data := .seq items2 n2, slots := sl2 } ∧
        (∀ j (h1 : j < items.size) (h2 : j < items2.size), EqP prog w A.in1 s items[j] items2[j] (e j)) ∧
        R (.ok (.ret (.bool (!(List.range items.size).all e)))) s) := by
  intro A R s h
  obtain ⟨hp, g, d, tk, os⟩ := s; obtain ⟨hl, hb, he, h⟩ := h
  have f3 := AutoSeq1.sub_list_list
  have hne : ¬ (items.size != items2.size) = true := by simp [hsz]
  wp_walk using wpAny_loadPart' hl, wpAny_loadPart' hb
  exact ⟨plainId_quiet plain_eq_loop _, codeAny_builtin entry_eq_loop (by
    rw [Around.under_plainId plain_eq_loop _]
    exact lr_ne_loopIn l b items items2 n n2 dd dd2 sl sl2 hsz e _ 0 rfl A R _ ⟨hl, hb, he, by simpa using h⟩)⟩
theorem lr_rcNe_lists {A : Around} {s : Shared} {l b : Addr} {items items2 : Array Value} {e : Nat → Bool} (hl : s.heap.IsList l items) (hb : s.heap.IsList b items2) (hsz : items.size = items2.size) (hu : A.units < cLine)
    (he : ∀ j (h1 : j < items.size) (h2 : j < items2.size), EqP prog w A.in1 s items[j] items2[j] (e j)) (E Q : Value → Shared → Prop) (h : Q (.bool (!(List.range items.size).all e)) s) : wpAny (model prog w) A (richCompare .NotEq (.ref l) (.ref b)) Q E s := by
  obtain ⟨⟨cls, dd, data, sl⟩, ho, hc, n, hd⟩ := id hl
  obtain ⟨⟨cls2, dd2, data2, sl2⟩, ho2, hc2, n2, hd2⟩ := id hb
  simp only at hc hd hc2 hd2
  subst hc hd hc2 hd2
  have ta : s.TypeIs (.ref l) "list" := ⟨_, ho, rfl⟩
  have tb : s.TypeIs (.ref b) "list" := ⟨_, ho2, rfl⟩
  exact wpAny_richCompare_same_room (op := .NotEq) ta tb F.slot_list_ne (call_meetsIn F.slot_list_ne ta F.entry_list_ne (F.args_list_ne_2 _ _) (lr_list_neIn l b items items2 n n2 dd dd2 sl sl2 hsz e)
    ⟨ho, ho2, he, show Value.bool (!(List.range items.size).all e) ≠ Value.notImplemented ∧ Q (.bool (!(List.range items.size).all e)) s from ⟨(fun x => nomatch x), h⟩⟩) hu
end
end PySem.SeqAt
namespace Lr
open PySem L2 PySem.Spec
open PyProof.Rows hiding St
section
variable {nm : Nm} {X : Cx} {W : XW}
/-- a != b, two lists of equal items -/
def rNeV (K : PySem.W.Frag) : R2 := fun x y H Q => ∃ n, n ≤ 60 ∧ (∃ a b xs ys, x = .ref a ∧ y = .ref b ∧ SqL K H a xs ∧ SqL K H b ys ∧ Paired (EqV K H n) xs ys) ∧ Q (.bl false) H
theorem op_neV (hu : X.A.units + 64 < cLine) : OpR X (compareOp .NotEq) (rNeV X.K) := by
  intro pins s σ H x y v u Q I rx ry h
  obtain ⟨n, hn, ⟨a, b, xs, ys, rfl, rfl, ha, hb, hp⟩, q⟩ := h
  cases (show v = Value.ref a from rx)
  cases (show u = Value.ref b from ry)
  obtain ⟨us, r1, p1, _⟩ := I.list ha
  obtain ⟨ws, r2, p2, _⟩ := I.list hb
  have hsz : us.toArray.size = ws.toArray.size := by
    rw [List.size_toArray, List.size_toArray, ← r1.length, ← r2.length]
    exact Paired.length hp
  refine SeqAt.lr_rcNe_lists (e := fun _ => true) p1.isList p2.isList hsz (by omega) (fun j h1 h2 => ?_) _ _ ?_
  · have k := items_run (eqV_run I n X.A.in1 (by show X.A.units + 1 + n < cLine; omega)) hp r1 r2 j (by simpa using h1) (by simpa using h2)
    simpa using k
  · rw [show ((List.range us.toArray.size).all fun _ => true) = true from List.all_eq_true.mpr fun _ _ => rfl]
    exact ⟨.bl false, H, I, rfl, q⟩
/-- the dicts in a list -/
def dics (μ : Mu) : List D → Option (List (List (D × D)))
  | [] => some []
  | d :: r => match dof d μ, dics μ r with
    | some (.dic kvs), some l => some (kvs :: l)
    | _, _ => none
/-- each pair is found at its key, and is a number -/
def OkKv (kvs : List (D × D)) : Prop := ∀ p ∈ kvs, look kvs p.1 = some p.2 ∧ ∃ i, p.2 = .int i
open Classical in
noncomputable def dNeV : F2 := fun a b μ => match lof a μ, lof b μ with
  | some xs, some ys => match dics μ xs, dics μ ys with
    | some A, some B => if A = B ∧ ∀ kvs ∈ A, OkKv kvs then .ok (.bl false, μ) else .no
    | _, _ => .no
  | _, _ => .no
theorem dic_at {env : Ev} {μ : Mu} {σ : St} {H G : Hp} {ρ : List Addr} (R : Rel (ct nm X) G ρ env μ σ H) {d : D} {v : V} {kvs : List (D × D)} (r1 : rep (ct nm X) G ρ d v) (e1 : dof d μ = some (.dic kvs)) : ∃ a ks, v = .ref a ∧ H a = some (.dK ks) ∧ repk (ct nm X) G ρ kvs ks := by
  unfold dof at e1
  split at e1
  · cases e1
    obtain ⟨a, ks, rfl, q, rk⟩ := r1
    exact ⟨a, ks, rfl, R.sub _ _ q, rk⟩
  · cases e1
  · rename_i n
    obtain ⟨a, e3, rfl⟩ := r1
    split at e1
    · rename_i kvs q
      cases e1
      obtain ⟨ks, q2, rk⟩ := R.cells n a _ e3 q
      exact ⟨a, ks, rfl, q2, rk⟩
    · cases e1
    · cases e1
  · cases e1
theorem repk_len2 {t : Ct} {G : Hp} {ρ : List Addr} : ∀ {kvs : List (D × D)} {ks : List (Key × V)}, repk t G ρ kvs ks → ks.length = kvs.length
  | [], _, h => by cases h; rfl
  | (k, d) :: r, _, ⟨_, _, _, e, _, _, h⟩ => by subst e; simp [repk_len2 h]
theorem repk_mem {t : Ct} {G : Hp} {ρ : List Addr} : ∀ {kvs : List (D × D)} {ks : List (Key × V)}, repk t G ρ kvs ks → ∀ p ∈ ks, ∃ q ∈ kvs, keyOf q.1 = some p.1 ∧ rep t G ρ q.2 p.2
  | [], _, h, p, hp => by cases h; cases hp
  | (k, d) :: r, _, ⟨k', v, r', e, hk, h1, h2⟩, p, hp => by
    subst e
    rcases List.mem_cons.mp hp with rfl | hp
    · exact ⟨(k, d), by simp, hk, h1⟩
    · obtain ⟨q, a, b⟩ := repk_mem h2 p hp
      exact ⟨q, by simp [a], b⟩
theorem dics_pair {env : Ev} {μ : Mu} {σ : St} {H G : Hp} {ρ : List Addr} (R : Rel (ct nm X) G ρ env μ σ H) : ∀ {xs ys : List D} {A : List (List (D × D))} {vs ws : List V}, dics μ xs = some A → dics μ ys = some A → (∀ kvs ∈ A, OkKv kvs) → reps (ct nm X) G ρ xs vs → reps (ct nm X) G ρ ys ws → Paired (EqV X.K H 2) vs ws
  | [], [], A, vs, ws, h1, h2, ok, r1, r2 => by
    cases r1; cases r2
    exact .nil
  | [], y :: ys, A, vs, ws, h1, h2, ok, r1, r2 => by
    cases h1
    unfold dics at h2
    split at h2 <;> cases h2
  | x :: xs, [], A, vs, ws, h1, h2, ok, r1, r2 => by
    cases h2
    unfold dics at h1
    split at h1 <;> cases h1
  | x :: xs, y :: ys, A, vs, ws, h1, h2, ok, r1, r2 => by
    unfold dics at h1 h2
    split at h1
    · rename_i kvs l e1 e2
      cases h1
      split at h2
      · rename_i kvs' l' e3 e4
        injection h2 with h2
        injection h2 with h3 h4
        subst h3 h4
        obtain ⟨v, r, rfl, rv, rr⟩ := r1
        obtain ⟨w, r', rfl, rw', rr'⟩ := r2
        obtain ⟨a, ks, rfl, ha, ra⟩ := dic_at R rv e1
        obtain ⟨b, ls, rfl, hb, rb⟩ := dic_at R rw' e3
        refine .cons (.inr (.inr (.inr ⟨a, b, ks, ls, rfl, rfl, ha, hb, by rw [repk_len2 ra, repk_len2 rb], fun p hp => ?_⟩))) (dics_pair R e2 e4 (fun z hz => ok z (by simp [hz])) rr rr')
        obtain ⟨q, hq, kq, rq⟩ := repk_mem ra p hp
        obtain ⟨l1, i, l2⟩ := ok kvs' (by simp) q hq
        obtain ⟨u, hu, ru⟩ := (look_k kq rb).1 _ l1
        rw [l2] at rq ru
        have e5 : p.2 = .int i := rq
        have e6 : u = .int i := ru
        exact ⟨u, hu, .inl ⟨by rw [e5, e6], by rw [e5]; rfl⟩⟩
      · cases h2
    · cases h1
theorem op2_neV : Op2 nm X W dNeV (rNeV X.K) := by
  intro env μ σ H ρ G Q d1 d2 v1 v2 R r1 r2 P
  unfold dNeV at P
  split at P
  · rename_i xs ys e1 e2
    split at P
    · rename_i A B e3 e4
      split at P
      · rename_i h
        obtain ⟨rfl, ok⟩ := h
        obtain ⟨a, vs, rfl, q1, rs1⟩ := lof_ok R r1 e1
        obtain ⟨b, ws, rfl, q2, rs2⟩ := lof_ok R r2 e2
        exact ⟨2, by decide, ⟨a, b, vs, ws, rfl, rfl, q1, q2, dics_pair R e3 e4 ok rs1 rs2⟩, P _ H ρ G .refl R rfl⟩
      · exact P.elim
    · exact P.elim
  · exact P.elim
end
/-! each key once -/
theorem kEq_str {a b : List Nat} : kEq (.str a) (.str b) = decide (a = b) := rfl
/-- signs to numbers, each sign once -/
def KvU (kvs : List (D × D)) : Prop := KvI kvs ∧ (kvs.map (·.1)).Nodup
theorem KvU.nil : KvU [] := ⟨KvI.nil, List.nodup_nil⟩
theorem KvU.put {kvs : List (D × D)} (h : KvU kvs) (c : Nat) (v : Int) : KvU (putD kvs (.str [c]) (.int v)) := by
  refine ⟨h.1.put c v, ?_⟩
  unfold putD
  split
  · rw [List.map_map]
    have e : ((fun p : D × D => p.1) ∘ fun p : D × D => if kEq p.1 (.str [c]) = true then (p.1, D.int v) else p) = (·.1) := by
      funext p
      show (if kEq p.1 (.str [c]) = true then (p.1, D.int v) else p).1 = p.1
      split <;> rfl
    rw [e]; exact h.2
  · rename_i hn
    rw [List.map_append, List.nodup_append]
    refine ⟨h.2, by simp, fun x hx y hy z => ?_⟩
    obtain ⟨p, hp, rfl⟩ := List.mem_map.mp hx
    have hy : y = .str [c] := by simpa using hy
    apply hn
    rw [List.any_eq_true]
    exact ⟨p, hp, by rw [z, hy, kEq_str]; simp⟩
theorem KvU.ok {kvs : List (D × D)} (h : KvU kvs) : OkKv kvs := by
  obtain ⟨h1, h2⟩ := h
  intro p hp
  obtain ⟨c, v, rfl⟩ := h1 p hp
  refine ⟨?_, v, rfl⟩
  show look kvs (.str [c]) = some (.int v)
  induction kvs with
  | nil => cases hp
  | cons q r ih =>
    rw [List.map_cons, List.nodup_cons] at h2
    obtain ⟨c', v', rfl⟩ := h1 q (by simp)
    by_cases e : c' = c
    · subst e
      rcases List.mem_cons.mp hp with z | z
      · cases z
        unfold look
        rw [List.find?_cons_of_pos (by rw [kEq_str]; simp)]; rfl
      · exact absurd (List.mem_map.mpr ⟨_, z, rfl⟩) h2.1
    · have hr : (D.str [c], D.int v) ∈ r := by
        rcases List.mem_cons.mp hp with z | z
        · cases z; exact absurd rfl e
        · exact z
      have := ih (fun p hp => h1 p (by simp [hp])) h2.2 hr
      unfold look at this ⊢
      rw [List.find?_cons_of_neg (by rw [kEq_str]; simpa using e)]
      exact this
end Lr

/-! Lr, part 29: evaluation at any store. -/
namespace Lr
open PySem L2
theorem forGo_invL {T : Tg} {b : SM} {ds : List D} {n f : Nat} {e : Ev} {μ : Mu} (I : Nat → Ev → Mu → Prop) (hn : ∀ i e μ, I i e μ → μ[n]? = some (.lst ds)) (h0 : I 0 e μ) (hf : ds.length < f)
    (step : ∀ (i : Nat) d e μ, ds[i]? = some d → I i e μ → ∃ e1, setT T d e = some e1 ∧ ∃ e2 μ2, (b e1 μ = some (.nx e2 μ2) ∨ b e1 μ = some (.ct e2 μ2)) ∧ I (i + 1) e2 μ2) :
    ∃ e2 μ2, forGo T b (.live (.ref n)) f 0 e μ = some (.nx e2 μ2) ∧ I ds.length e2 μ2 := by
  have main : ∀ (k i f : Nat) (e : Ev) (μ : Mu), ds.length - i = k → i ≤ ds.length → ds.length - i < f → I i e μ → ∃ e2 μ2, forGo T b (.live (.ref n)) f i e μ = some (.nx e2 μ2) ∧ I ds.length e2 μ2 := by
    intro k
    induction k with
    | zero =>
      intro i f e μ hk hi hf hI
      have : i = ds.length := by omega
      subst this
      obtain ⟨f, rfl⟩ : ∃ g, f = g + 1 := ⟨f - 1, by omega⟩
      refine ⟨e, μ, ?_, hI⟩
      unfold forGo
      rw [items_live (hn _ _ _ hI)]
      simp
    | succ k ih =>
      intro i f e μ hk hi hf hI
      have hlt : i < ds.length := by omega
      obtain ⟨f, rfl⟩ : ∃ g, f = g + 1 := ⟨f - 1, by omega⟩
      have hd : ds[i]? = some ds[i] := List.getElem?_eq_getElem hlt
      obtain ⟨e1, h1, e2, μ2, h2, hI2⟩ := step i _ e μ hd hI
      obtain ⟨e3, μ3, h3, h4⟩ := ih (i + 1) f e2 μ2 (by omega) (by omega) (by omega) hI2
      refine ⟨e3, μ3, ?_, h4⟩
      unfold forGo
      rw [items_live (hn _ _ _ hI)]
      simp only [hd, h1]
      rcases h2 with h2 | h2 <;> rw [h2] <;> exact h3
  exact main _ 0 f e μ rfl (Nat.zero_le _) (by simpa using hf) h0
theorem d_tupleR {n : Nat} {μ : Mu} {xs : List D} (h : μ[n]? = some (.lst xs)) : dTuple [.ref n] μ = .ok (.tup xs, μ) := by
  have e : lof (.ref n) μ = some xs := by unfold lof; dsimp only; rw [h]
  show (match lof (.ref n) μ with | some xs => Res.ok (D.tup xs, μ) | none => .no) = _
  rw [e]
theorem d_fldR {n c i : Nat} {μ : Mu} {ds : List D} {d : D} (h : μ[n]? = some (.obj c ds)) (hd : ds[i]? = some d) : dFld c i (.ref n) μ = .ok (d, μ) := by
  have e : oof (.ref n) μ = some (c, ds) := by unfold oof; dsimp only; rw [h]
  unfold dFld
  rw [e]
  dsimp only
  rw [if_pos rfl, hd]
theorem d_inDRs {x : List Nat} {ws : List (List Nat)} {n : Nat} {μ : Mu} (h : μ[n]? = some (.dic (setD ws))) : dIn (.str x) (.ref n) μ = .ok (.bl (decide (x ∈ ws)), μ) := by
  unfold dIn dInB
  have e1 : lof (.ref n) μ = none := by unfold lof; dsimp only; rw [h]
  have e2 : dof (.ref n) μ = some (.dic (setD ws)) := by unfold dof; dsimp only; rw [h]
  simp only [e1, e2, dLook, isK, if_true, Option.map_some, look_set]
  rfl
theorem d_notInDRs {x : List Nat} {ws : List (List Nat)} {n : Nat} {μ : Mu} (h : μ[n]? = some (.dic (setD ws))) : dNotIn (.str x) (.ref n) μ = .ok (.bl (!decide (x ∈ ws)), μ) := by
  unfold dNotIn dInB
  have e1 : lof (.ref n) μ = none := by unfold lof; dsimp only; rw [h]
  have e2 : dof (.ref n) μ = some (.dic (setD ws)) := by unfold dof; dsimp only; rw [h]
  simp only [e1, e2, dLook, isK, if_true, Option.map_some, look_set]
  rfl
theorem d_notInRs {x : List Nat} {ws : List (List Nat)} {n : Nat} {μ : Mu} (h : μ[n]? = some (.lst (ws.map D.str))) : dNotIn (.str x) (.ref n) μ = .ok (.bl (!decide (x ∈ ws)), μ) := by
  unfold dNotIn dInB
  simp only [lof, h, inL_strs]
  rfl
theorem vw_obj_dic {μ : Mu} {n m : Nat} {ws : List (List Nat)} (h : μ[n]? = some (.obj 0 [.ref m])) (h2 : μ[m]? = some (.dic (setD ws))) : vw μ (.ref n) = some (.obj 0 [.dic (setD ws)]) := by
  unfold vw
  rw [if_neg (by simp [nr])]
  have e1 : inl true μ 11 (.ref m) = some (.dic (setD ws)) := by
    show inl true μ (10 + 1) _ = _
    rw [inl]
    simp only [h2]
    rw [mapO_id]
    · rfl
    · intro p hp
      obtain ⟨w, _, rfl⟩ := List.mem_map.mp hp
      rfl
  show inl true μ (11 + 1) (.ref n) = _
  rw [inl]
  simp only [h]
  show (mapO _ [D.ref m]).map _ = _
  unfold mapO
  rw [e1]
  rfl
theorem ne_nilR {n : Nat} {μ : Mu} {ws : List (List Nat)} (h : μ[n]? = some (.lst (ws.map D.str))) : dNe (.ref n) (.lst []) μ = .ok (.bl (!decide (ws = [])), μ) := by
  have e1 : vE μ (.ref n) = some (.lst (ws.map D.str)) := by
    unfold vE
    rw [if_neg (by simp [pd])]
    show inlE _ (19 + 1) _ = _
    rw [inlE]
    simp only [h]
    rw [mapO_id]
    · rfl
    · intro d hd
      obtain ⟨w, _, rfl⟩ := List.mem_map.mp hd
      rfl
  have e2 : vE μ (.lst []) = some (.lst []) := vE_pd rfl
  unfold dNe dEqB
  rw [e1, e2]
  cases ws with
  | nil => rfl
  | cons w r => rfl
theorem m_insertR {n : Nat} {i : Int} {x : D} {xs : List D} {μ : Mu} (h : μ[n]? = some (.lst xs)) (hl : xs.length < lineN) (h0 : 0 ≤ i) (h1 : i < 1000000) : mInsert (.ref n) [.int i, x] μ = .ok (.non, μ.set n (.lst (xs.take i.toNat ++ [x] ++ xs.drop i.toNat))) := by
  unfold mInsert lst1
  simp only [h]
  rw [if_pos ⟨hl, h0, by omega⟩]
theorem d_ltS {x y : List Nat} {μ : Mu} : dLt (.str x) (.str y) μ = .ok (.bl (decide (x < y)), μ) := id rfl
/-! strictly rising lists of texts -/
theorem rise_filter {F : List (List Nat)} {x : List Nat} (h : F.Pairwise (· < ·)) : F.filter (fun y => decide (y < x)) = F.take (F.filter fun y => decide (y < x)).length ∧ ∀ y ∈ F.drop (F.filter fun y => decide (y < x)).length, ¬ y < x := by
  induction F with
  | nil => exact ⟨rfl, fun y hy => by cases hy⟩
  | cons a r ih =>
    rw [List.pairwise_cons] at h
    obtain ⟨i1, i2⟩ := ih h.2
    by_cases c : a < x
    · rw [List.filter_cons_of_pos (by simpa using c)]
      refine ⟨?_, i2⟩
      show a :: _ = a :: r.take _
      rw [← i1]
    · rw [List.filter_cons_of_neg (by simpa using c)]
      have e : r.filter (fun y => decide (y < x)) = [] := by
        rw [List.filter_eq_nil_iff]
        intro y hy z
        exact c (List.lt_trans (h.1 y hy) (of_decide_eq_true z))
      rw [e]
      exact ⟨rfl, fun y hy => by
        rcases List.mem_cons.mp hy with rfl | hy
        · exact c
        · exact fun z => c (List.lt_trans (h.1 y hy) z)⟩
theorem rise_insert {F : List (List Nat)} {x : List Nat} (h : F.Pairwise (· < ·)) (hx : x ∉ F) : (F.take (F.filter fun y => decide (y < x)).length ++ [x] ++ F.drop (F.filter fun y => decide (y < x)).length).Pairwise (· < ·) := by
  obtain ⟨i1, i2⟩ := rise_filter (x := x) h
  generalize hk : (F.filter fun y => decide (y < x)).length = k at *
  have hF : (F.take k ++ F.drop k).Pairwise (· < ·) := by rw [List.take_append_drop]; exact h
  rw [List.pairwise_append] at hF
  obtain ⟨p1, p2, p3⟩ := hF
  have lt : ∀ y ∈ F.take k, y < x := fun y hy => by
    rw [← i1] at hy
    exact of_decide_eq_true (List.mem_filter.mp hy).2
  have gt : ∀ y ∈ F.drop k, x < y := fun y hy => ord_tri (i2 y hy) fun z => hx (z ▸ List.mem_of_mem_drop hy)
  rw [List.append_assoc, List.pairwise_append]
  refine ⟨p1, ?_, fun a ha b hb => ?_⟩
  · rw [List.singleton_append, List.pairwise_cons]
    exact ⟨gt, p2⟩
  · rcases List.mem_append.mp hb with z | z
    · rw [List.mem_singleton.mp z]; exact lt a ha
    · exact p3 a ha b z
theorem mem_insertAt {F : List (List Nat)} {x : List Nat} (k : Nat) (y : List Nat) : y ∈ F.take k ++ [x] ++ F.drop k ↔ y ∈ F ∨ y = x := by
  have e : y ∈ F ↔ y ∈ F.take k ∨ y ∈ F.drop k := by rw [← List.mem_append, List.take_append_drop]
  simp only [List.mem_append, List.mem_singleton, e]
  constructor
  · rintro ((h | h) | h)
    · exact .inl (.inl h)
    · exact .inr h
    · exact .inl (.inr h)
  · rintro ((h | h) | h)
    · exact .inl (.inl h)
    · exact .inr h
    · exact .inl (.inr h)
theorem nodup_of_rise {F : List (List Nat)} (h : F.Pairwise (· < ·)) : F.Nodup := h.imp fun {a b} z e => by rw [e] at z; exact List.lt_irrefl _ z
theorem mem_eraseR {F : List (List Nat)} {x y : List Nat} (h : F.Pairwise (· < ·)) : y ∈ F.erase x ↔ y ∈ F ∧ y ≠ x := by
  rw [(nodup_of_rise h).mem_erase_iff]
  exact And.comm
end Lr

/-! Lr, part 30: list(d) of a dict with tuple keys; sorted lists told by an order. -/
namespace Lr
open PySem L2 PySem.Spec
open PyProof.Rows hiding St
def keyOkD : D → Bool
  | .int _ => true
  | .str x => okS x
  | _ => false
def keyTOk : D → Bool
  | .tup ds => ds.all keyOkD
  | _ => false
theorem reps_of_keys {t : Ct} {G : Hp} {ρ : List Addr} : ∀ {ds : List D} {ks : List Key}, keysOfL ds = some ks → ds.all keyOkD = true → reps t G ρ ds (ks.map kV)
  | [], ks, h, _ => by cases h; rfl
  | d :: ds, ks, h, ok => by
    unfold keysOfL at h
    rw [List.all_cons, Bool.and_eq_true] at ok
    split at h
    · rename_i k ks' e1 e2
      cases h
      refine ⟨kV k, _, rfl, ?_, reps_of_keys e2 ok.2⟩
      cases d <;> simp [keyOf] at e1 <;> subst e1
      · rfl
      · exact ⟨rfl, ok.1⟩
    · cases h
section
variable {nm : Nm} {X : Cx} {W : XW}
theorem tupsG {t : Ct} {env : Ev} {μ : Mu} {σ : St} {H G0 : Hp} {ρ ρ0 : List Addr} : ∀ {kvs : List (D × D)} {ks : List (List Key × V)} {bs : List Addr} {G : Hp}, Rel t G ρ env μ σ H → repkT t G0 ρ0 kvs ks → IsKeys H ks bs → (kvs.all fun p => keyTOk p.1) = true →
    ∃ G', Rel t G' ρ env μ σ H ∧ Ext G ρ H G' ρ H ∧ reps t G' ρ (kvs.map (·.1)) (bs.map V.ref)
  | [], ks, bs, G, R, h, k, _ => by
    cases h
    cases k
    exact ⟨G, R, .refl, rfl⟩
  | (k, d) :: r, ks, bs, G, R, h, kk, ok => by
    obtain ⟨k', v, r', rfl, hk, h1, h2⟩ := h
    rw [List.all_cons, Bool.and_eq_true] at ok
    cases kk with
    | @cons _ b _ bs' e t =>
      obtain ⟨R1, e1⟩ := R.tupG e
      obtain ⟨G', R', e', rs⟩ := tupsG R1 h2 t ok.2
      refine ⟨G', R', e1.trans e', ?_⟩
      have ok1 := ok.1
      cases k <;> simp [keyT] at hk
      rename_i ds
      exact ⟨.ref b, _, rfl, ⟨b, _, rfl, e'.sub _ _ upd_same, reps_of_keys hk ok1⟩, rs⟩
def dListB (fl : Bool) : FN := fun ds μ => match ds with
  | [d] => match dof d μ with
    | some (.dit kvs) => if (kvs.all fun p => keyTOk p.1) = true then .ok (mkL fl (kvs.map (·.1)) μ) else .no
    | _ => dListA fl [d] μ
  | _ => .no
def rListT : List V → Hp → VK → Prop := fun xs H Q => ∃ d kvs, xs = [V.ref d] ∧ Rd H d (.dT kvs) ∧ ∀ p bs, H p = none → IsKeys H kvs bs → Q (.ref p) (upd H p (.lst (bs.map V.ref)))
theorem opn_listB {fl : Bool} : OpN nm X W (dListB fl) (fun xs H Q => ((rListL X xs H Q ∨ rListC xs H Q) ∨ rListD xs H Q) ∨ rListT xs H Q) := by
  intro env μ σ H ρ G Q ds vs R r P
  unfold dListB at P
  split at P
  · split at P
    · rename_i d kvs e0
      split at P
      · rename_i ok
        obtain ⟨v, r0, rfl, rv, hr⟩ := r
        cases hr
        obtain ⟨a, rfl, ⟨_, ks, e2, hh, rk⟩ | ⟨_, ks, e2, hh, rk⟩⟩ := dof_ok R rv e0
        · cases e2
        · cases e2
          refine .inr ⟨a, ks, rfl, .inl hh, fun p bs hp hk => ?_⟩
          obtain ⟨G', R', e', rs⟩ := tupsG R rk hk ok
          exact new_L R' rs (P.re e') p hp
      · exact P.elim
    · exact .inl (opn_listA (fl := fl) env μ σ H ρ G Q _ vs R r P)
  · exact P.elim
theorem call_listB (hc : X.calm = true) : CallR X (.type "list") (fun xs H Q => ((rListL X xs H Q ∨ rListC xs H Q) ∨ rListD xs H Q) ∨ rListT xs H Q) := (call_listA hc).or (call_list_dT hc)
end
/-! lists sorted by an order -/
section
variable {α : Type} (f : α → D) (lt : α → α → Prop)
structure Ord (f : α → D) (lt : α → α → Prop) : Prop where
  is : ∀ a b, PySem.W.dataLt (toP (f a)) (toP (f b)) = true ↔ lt a b
  tr : ∀ a b c, lt a b → lt b c → lt a c
  irr : ∀ a, ¬ lt a a
  tri : ∀ a b, ¬ lt a b → a ≠ b → lt b a
variable {f lt}
theorem Ord.uniq (O : Ord f lt) : ∀ A B : List α, A.Pairwise lt → B.Pairwise lt → (∀ x, x ∈ A ↔ x ∈ B) → A = B
  | [], [], _, _, _ => rfl
  | [], b :: B, _, _, h => absurd ((h b).mpr (by simp)) (by simp)
  | a :: A, [], _, _, h => absurd ((h a).mp (by simp)) (by simp)
  | a :: A, b :: B, hA, hB, h => by
    rw [List.pairwise_cons] at hA hB
    have e : a = b := by
      rcases List.mem_cons.mp ((h a).mp (by simp)) with z | z
      · exact z
      · rcases List.mem_cons.mp ((h b).mpr (by simp)) with w | w
        · exact w.symm
        · exact absurd (O.tr _ _ _ (hA.1 b w) (hB.1 a z)) (O.irr a)
    subst e
    rw [O.uniq A B hA.2 hB.2 fun x => ?_]
    constructor
    · intro hx
      rcases List.mem_cons.mp ((h x).mp (by simp [hx])) with z | z
      · have y := hA.1 x hx
        rw [z] at y
        exact absurd y (O.irr a)
      · exact z
    · intro hx
      rcases List.mem_cons.mp ((h x).mpr (by simp [hx])) with z | z
      · have y := hB.1 x hx
        rw [z] at y
        exact absurd y (O.irr a)
      · exact z
theorem Ord.nodup (O : Ord f lt) {A : List α} (h : A.Pairwise lt) : A.Nodup := h.imp fun {a b} z e => by rw [e] at z; exact O.irr _ z
def leF (f : α → D) (a b : α) : Bool := PySem.W.dataLe false toP (f a) (f b)
theorem Ord.le (O : Ord f lt) (a b : α) : leF f a b = true ↔ ¬ lt b a := by
  have e : leF f a b = !PySem.W.dataLt (toP (f b)) (toP (f a)) := rfl
  rw [e, ← O.is b a]
  simp
theorem Ord.sorted (O : Ord f lt) {L : List α} (hL : L.Nodup) : (L.mergeSort (leF f)).Pairwise lt := by
  have p1 : (L.mergeSort (leF f)).Pairwise fun a b => leF f a b = true := List.pairwise_mergeSort (fun a b c x y => by
    rw [O.le] at x y ⊢
    intro z
    by_cases e : b = c
    · exact x (e ▸ z)
    · exact x (O.tr _ _ _ (Classical.byContradiction fun w => y (O.tri _ _ w e)) z)) (fun a b => by
    rw [Bool.or_eq_true, O.le, O.le]
    by_cases z : lt b a
    · exact .inr fun w => O.irr _ (O.tr _ _ _ w z)
    · exact .inl z) L
  have p2 : (L.mergeSort (leF f)).Nodup := (List.mergeSort_perm L _).nodup_iff.mpr hL
  refine (p1.and p2).imp fun {a b} ⟨x, y⟩ => ?_
  rw [O.le] at x
  exact O.tri _ _ x (Ne.symm y)
theorem srtD_map (L : List α) : srtD (L.map f) = (L.mergeSort (leF f)).map f := (List.map_mergeSort (r := leF f) (s := PySem.W.dataLe false toP) (f := f) (l := L) fun _ _ _ _ => rfl).symm
theorem Ord.srt (O : Ord f lt) {L M : List α} (hL : L.Nodup) (hM : M.Pairwise lt) (h : ∀ x, x ∈ L ↔ x ∈ M) : srtD (L.map f) = M.map f := by
  rw [srtD_map]
  congr 1
  exact O.uniq _ _ (O.sorted hL) hM fun x => (List.mergeSort_perm L _).mem_iff.trans (h x)
end
/-! pairs of numbers, triples with a sign -/
def pairD (q : Nat × Nat) : D := .tup [.int (q.1 : Int), .int (q.2 : Int)]
def lt2 (p q : Nat × Nat) : Prop := p.1 < q.1 ∨ (p.1 = q.1 ∧ p.2 < q.2)
theorem ord2 : Ord pairD lt2 where
  is := fun a b => by
    show PySem.W.dataLt (.tuple [.int _, .int _]) (.tuple [.int _, .int _]) = true ↔ _
    rw [PySem.W.dataLt_ii, decide_eq_true_eq]
    unfold lt2
    omega
  tr := fun a b c x y => by unfold lt2 at *; omega
  irr := fun a x => by unfold lt2 at x; omega
  tri := fun a b x y => by
    unfold lt2 at *
    by_cases e : a.1 = b.1
    · by_cases e2 : a.2 = b.2
      · exact absurd (Prod.ext e e2) y
      · omega
    · omega
def triD (q : Nat × Nat × Nat) : D := .tup [.int (q.1 : Int), .int (q.2.1 : Int), .str [q.2.2]]
def lt3 (p q : Nat × Nat × Nat) : Prop := p.1 < q.1 ∨ (p.1 = q.1 ∧ (p.2.1 < q.2.1 ∨ (p.2.1 = q.2.1 ∧ p.2.2 < q.2.2)))
instance (p q : Nat × Nat × Nat) : Decidable (lt3 p q) := by unfold lt3; infer_instance
instance (p q : Nat × Nat) : Decidable (lt2 p q) := by unfold lt2; infer_instance
theorem ltS1 (a b : Nat) : PySem.W.dataLt (.str (S [a])) (.str (S [b])) = decide (a < b) := by
  rw [PySem.W.dataLt_str]
  apply decide_eq_decide.mpr
  rw [S_cps, S_cps, List.cons_lt_cons_iff]
  simp
theorem dataLt_tri (a b c : Nat × Nat × Nat) : PySem.W.dataLt (toP (triD a)) (toP (triD b)) = decide (lt3 a b) := by
  obtain ⟨a1, a2, a3⟩ := a
  obtain ⟨b1, b2, b3⟩ := b
  show PySem.W.dataLt (.tuple [.int _, .int _, .str _]) (.tuple [.int _, .int _, .str _]) = _
  have al : PySem.W.alike (.str (S [a3])) (.str (S [b3])) = true := by simp [PySem.W.alike]
  rw [PySem.W.dataLt_tuple, PySem.W.dataLt_cons (by simp [PySem.W.alike]), PySem.W.dataLt_cons (by simp [PySem.W.alike]), PySem.W.dataLt_cons al]
  have e : PyProof.Rows.lexLt PyProof.Rows.itemOrd (PySem.W.keyToksAll []) (PySem.W.keyToksAll []) = false := PyProof.Rows.lex_irrefl _
  rw [e, ltS1, PySem.W.dataLt_int, PySem.W.dataLt_int]
  simp only [PyData.eqv, beq_iff_eq, lt3, beq_S, decide_eq_true_eq, List.cons.injEq, and_true]
  by_cases h1 : a1 = b1
  · by_cases h2 : a2 = b2
    · by_cases h3 : a3 = b3
      · simp [h1, h2, h3]
      · simp [h1, h2, h3]
    · have h2' : ¬ ((a2 : Int) = (b2 : Int)) := by omega
      simp [h1, h2, h2']
  · have h1' : ¬ ((a1 : Int) = (b1 : Int)) := by omega
    simp [h1, h1']
theorem ord3 : Ord triD lt3 where
  is := fun a b => by rw [dataLt_tri a b a, decide_eq_true_eq]
  tr := fun a b c x y => by unfold lt3 at *; omega
  irr := fun a x => by unfold lt3 at x; omega
  tri := fun a b x y => by
    unfold lt3 at *
    by_cases e : a.1 = b.1
    · by_cases e2 : a.2.1 = b.2.1
      · by_cases e3 : a.2.2 = b.2.2
        · exact absurd (Prod.ext e (Prod.ext e2 e3)) y
        · omega
      · omega
    · omega
theorem okSort_pair (L : List (Nat × Nat)) (h : L.length ≤ lineN) : okSort (L.map pairD) = true := by
  unfold okSort
  have pp : pds 20 (L.map pairD) = true := pds_map fun _ _ => rfl
  simp only [Bool.and_eq_true, Bool.or_eq_true, List.all_eq_true, decide_eq_true_eq]
  refine ⟨⟨⟨fun a ha b hb => ?_, .inl fun a ha => ?_⟩, pp⟩, by rw [List.length_map]; exact h⟩
  · obtain ⟨x, _, rfl⟩ := List.mem_map.mp ha
    obtain ⟨y, _, rfl⟩ := List.mem_map.mp hb
    simp [pairD, toP, toPs, PySem.W.alike, PySem.W.alikeAll]
  · obtain ⟨x, _, rfl⟩ := List.mem_map.mp ha
    rfl
theorem okSort_tri (L : List (Nat × Nat × Nat)) (h : L.length ≤ lineN) : okSort (L.map triD) = true := by
  unfold okSort
  have pp : pds 20 (L.map triD) = true := pds_map fun _ _ => rfl
  simp only [Bool.and_eq_true, Bool.or_eq_true, List.all_eq_true, decide_eq_true_eq]
  refine ⟨⟨⟨fun a ha b hb => ?_, .inl fun a ha => ?_⟩, pp⟩, by rw [List.length_map]; exact h⟩
  · obtain ⟨x, _, rfl⟩ := List.mem_map.mp ha
    obtain ⟨y, _, rfl⟩ := List.mem_map.mp hb
    simp [triD, toP, toPs, PySem.W.alike, PySem.W.alikeAll]
  · obtain ⟨x, _, rfl⟩ := List.mem_map.mp ha
    rfl
theorem d_sortAp {α : Type} {f : α → D} {fl : Bool} {L : List α} {μ : Mu} (h : okSort (L.map f) = true) : dSortA fl [.lst (L.map f)] μ = .ok (mkL fl ((L.mergeSort (leF f)).map f) μ) := by
  show dSortL fl [.lst (L.map f)] μ = _
  rw [d_sortLL h, srtD_map]
theorem d_ltTri {a b : Nat × Nat × Nat} {μ : Mu} : dLt (triD a) (triD b) μ = .ok (.bl (decide (lt3 a b)), μ) := by
  have v : ∀ q, vE μ (triD q) = some (triD q) := fun q => vE_pd rfl
  have o : okLt (triD a) (triD b) = true := by simp [okLt, triD, toP, toPs, PySem.W.alike, PySem.W.alikeAll]
  show (match vE μ (triD a), vE μ (triD b) with | some x, some y => if okLt x y then Res.ok (D.bl (ltD x y), μ) else .no | _, _ => .no) = _
  rw [v, v]
  dsimp only
  rw [if_pos o]
  unfold ltD
  rw [dataLt_tri a b a]
end Lr

/-! Lr, part 31: isinstance(x, C) of an instance of C. -/
namespace Lr
open PySem L2
/-- what isinstance asks of an own class -/
structure IsT (K : PySem.W.Frag) (C : Addr) : Prop where
  ha : PySem.W.findIn K (.ref C) "__class__" = some (some (.builtin "object.__class__"))
  hn : PySem.W.specialIn K (.builtin "object.__class__") "__get__" = some (some (.builtin "getset_descriptor.__get__"))
  ht : PySem.W.takesIn K (.builtin "object.__class__") = some true
  hm : PySem.W.mroIn K C (.type "object") = some true
def dIsO (c : Nat) : F1 := fun d μ => match oof d μ with
  | some (c', _) => if c' = c then .ok (.bl true, μ) else .no
  | none => .no
section
variable {nm : Nm} {X : Cx} {W : XW} {e : Expr} {pos p p2 : Pos} {ma : M} {c : Nat} {C : Addr} {y : Str}
theorem ev_isiO (T : ClsT nm X.K X.mg c C) (I : IsT X.K C) (hm : X.mg "isinstance" = none) (ha : EV nm X W e ma) (hy : nm.cn c = y := by rfl) (hg : Gl X "isinstance" := by rfl) (hgT : Gl X y := by rfl) (hdT : (y == ("__debug__" : Str)) = false := by decide)
    (hs : starEach [e, .Name y p2] X.env = (false, eval e X.env) :: starEach [.Name y p2] X.env := by rfl) (hs2 : starEach [.Name y p2] X.env = (false, eval (.Name y p2) X.env) :: starEach [] X.env := by rfl) (hpl : (backTo pos (starEach [.Name y p2] X.env)).any (·.1) = false := by rfl) :
    EV nm X W (.Call (.Name "isinstance" p) [e, .Name y p2] [] pos) (cU (dIsO c) ma) :=
  ev_of (pe_callB call_isi hg hm (by decide +kernel) (pa_cons pe_wp (pa_cons (pe_glob (v := .ref C) (u := .ref C) hgT (by rw [← hy]; exact T.at_) rfl hdT) pa_nil hs2) hs) (by decide) (by decide) hs hpl) fun env μ σ H ρ G Q R P => by
  refine ha.run env μ σ H ρ G _ R ((Po.bind P).imp (fun z hz v H1 ρ1 G1 e1 R1 r1 => ?_) fun _ _ _ h => h)
  obtain ⟨d, μ1⟩ := z
  dsimp only at hz R1 r1
  unfold dIsO at hz
  split at hz
  · rename_i c' ds q
    split at hz
    · rename_i hc
      subst hc
      obtain ⟨a, C', dx, vs, rfl, m, h, l, r⟩ := oof_ok R1 r1 q
      rw [T.at_] at m; cases m
      have ko : PySem.W.kitOne X.K (.ref C) (.ref C) = some true := by
        unfold PySem.W.kitOne
        rw [if_pos (beq_self_eq_true _)]
      exact ⟨.ref a, .ref C, .ref C, .ref C, true, rfl, .own C, .base (.ins h T.cl I.ha I.hn I.ht I.hm), ko, hz _ H1 ρ1 G1 e1 R1 rfl⟩
    · exact hz.elim
  · exact hz.elim
end
/-! lists made anew, one for each item -/
theorem lcGo_new {α : Type} {T : Tg} {elt : M} {xs : List α} {f g : α → D} {env : Ev} {fu : Nat} {μ : Mu} (hf : xs.length < fu) (hl : xs.length ≤ lineN)
    (h : ∀ a ∈ xs, ∀ μ : Mu, ∃ e1, setT T (f a) env = some e1 ∧ elt e1 μ = .ok (.ref μ.length, μ ++ [g a])) :
    lcGo T tTrue elt (.fix (xs.map f)) env fu 0 [] μ = .ok ((List.range xs.length).map (fun i => D.ref (μ.length + i)), μ ++ xs.map g) := by
  have main : ∀ (n i fu : Nat), xs.length - i = n → i ≤ xs.length → n < fu → lcGo T tTrue elt (.fix (xs.map f)) env fu i ((List.range i).map fun j => D.ref (μ.length + j)) (μ ++ (xs.take i).map g) = .ok ((List.range xs.length).map (fun i => D.ref (μ.length + i)), μ ++ xs.map g) := by
    intro n
    induction n with
    | zero =>
      intro i fu hn hi hfu
      have e : i = xs.length := by omega
      subst e
      obtain ⟨fu, rfl⟩ : ∃ q, fu = q + 1 := ⟨fu - 1, by omega⟩
      unfold lcGo
      simp [items]
    | succ n ih =>
      intro i fu hn hi hfu
      have hlt : i < xs.length := by omega
      obtain ⟨fu, rfl⟩ : ∃ q, fu = q + 1 := ⟨fu - 1, by omega⟩
      obtain ⟨e1, h1, h2⟩ := h xs[i] (List.getElem_mem hlt) (μ ++ (xs.take i).map g)
      have r := ih (i + 1) fu (by omega) (by omega) (by omega)
      have le : (μ ++ (xs.take i).map g).length = μ.length + i := by
        rw [List.length_append, List.length_map, List.length_take]; omega
      rw [le] at h2
      have te : (xs.take (i + 1)).map g = (xs.take i).map g ++ [g xs[i]] := by
        rw [List.take_add_one, List.getElem?_eq_getElem hlt, List.map_append]; rfl
      have re : (List.range (i + 1)).map (fun j => D.ref (μ.length + j)) = (List.range i).map (fun j => D.ref (μ.length + j)) ++ [D.ref (μ.length + i)] := by
        rw [List.range_succ, List.map_append]; rfl
      rw [te, re, ← List.append_assoc] at r
      unfold lcGo
      have hd : (xs.map f)[i]? = some (f xs[i]) := by rw [List.getElem?_map, List.getElem?_eq_getElem hlt]; rfl
      simp only [items, hd, h1, tTrue, h2]
      rw [if_pos (by rw [List.length_map, List.length_range]; omega)]
      exact r
  have := main xs.length 0 fu rfl (by omega) hf
  simpa using this
theorem m_joinR {n : Nat} {z : List Nat} {μ : Mu} (h : μ[n]? = some (.lst (chL z))) (hl : z.length ≤ lineN) : mJoin (.str []) [.ref n] μ = .ok (.str z, μ) := by
  have e : seqD (.ref n) μ = some (chL z) := by
    unfold seqD
    show lof (.ref n) μ = _
    unfold lof
    dsimp only
    rw [h]
  have j : mJoin (.str []) [.lst (chL z)] μ = .ok (.str z, μ) := m_joinC hl
  have e2 : seqD (.lst (chL z)) μ = some (chL z) := rfl
  unfold mJoin at j ⊢
  dsimp only at j ⊢
  rw [e2] at j
  rw [e]
  exact j
end Lr

/-! Lr, part 32: typed functions that stand for meanings: results R, slots with types, expressions. -/
namespace Lr
open PySem L2

inductive R (α : Type) where
  | ok (a : α) | ex (c : Nat) (ds : List D) | no
def R.bind {α β : Type} (r : R α) (f : α → R β) : R β := match r with
  | .ok a => f a
  | .ex c ds => .ex c ds
  | .no => .no
/-- an exception told as nothing -/
def R.ne {α : Type} (r : R α) : R α := match r with
  | .ok a => .ok a
  | _ => .no
theorem R.bind_ok {α β : Type} {a : α} {f : α → R β} : R.bind (.ok a) f = f a := id rfl
theorem R.bind_no {α β : Type} {f : α → R β} : R.bind .no f = .no := id rfl
theorem R.bind_ex {α β : Type} {c : Nat} {ds : List D} {f : α → R β} : R.bind (.ex c ds) f = .ex c ds := id rfl
theorem R.bind_if {α β : Type} {p : Prop} [Decidable p] {a b : R α} {f : α → R β} : R.bind (if p then a else b) f = if p then R.bind a f else R.bind b f := by split <;> rfl
theorem R.bind_assoc {α β δ : Type} {a : R α} {f : α → R β} {g : β → R δ} : R.bind (R.bind a f) g = R.bind a fun x => R.bind (f x) g := by cases a <;> rfl
theorem R.ne_ok {α : Type} {a : α} : R.ne (.ok a) = .ok a := id rfl
theorem R.bind_eq_ok {α β : Type} {r : R α} {f : α → R β} {b : β} : R.bind r f = .ok b ↔ ∃ a, r = .ok a ∧ f a = .ok b := by
  cases r with
  | ok a => exact ⟨fun h => ⟨a, rfl, h⟩, fun ⟨_, h, k⟩ => by cases h; exact k⟩
  | ex c ds => exact ⟨fun h => (by cases h), fun ⟨_, h, k⟩ => by cases h⟩
  | no => exact ⟨fun h => (by cases h), fun ⟨_, h, k⟩ => by cases h⟩
@[irreducible] def R.gd {α : Type} (p : Prop) [Decidable p] (r : R α) : R α := if p then r else .no
theorem R.gd_t {α : Type} {p : Prop} [Decidable p] {r : R α} (h : p) : R.gd p r = r := by unfold R.gd; exact if_pos h

inductive Sl (S : Type) where
  | un | val (f : S → D) | cel (o : Option Nat) (f : S → D)
def Sl.lift {S T : Type} (p : T → S) : Sl S → Sl T
  | .un => .un
  | .val f => .val fun t => f (p t)
  | .cel o f => .cel o fun t => f (p t)
def Sl.isC {S : Type} : Sl S → Bool
  | .cel _ _ => true
  | _ => false
abbrev Sls (S : Type) := List (Sl S)
def nth {S : Type} : Sls S → Nat → Sl S
  | [], _ => .un
  | x :: _, 0 => x
  | _ :: r, n + 1 => nth r n
def put {S : Type} : Sls S → Nat → Sl S → Sls S
  | [], _, _ => []
  | _ :: r, 0, y => y :: r
  | x :: r, n + 1, y => x :: put r n y
def lifts {S T : Type} (p : T → S) : Sls S → Sls T
  | [] => []
  | x :: r => x.lift p :: lifts p r
/-- what a slot tells -/
def SlOk {S : Type} (μ : Mu) (s : S) (o : Option (Option D)) : Sl S → Prop
  | .un => True
  | .val f => o = some (some (f s))
  | .cel (some n) f => o = some (some (.ref n)) ∧ μ[n]? = some (f s)
  | .cel none f => ∃ n, o = some (some (.ref n)) ∧ μ[n]? = some (f s)
section
variable {S T : Type}
theorem nth_put {γ : Sls S} {i : Nat} {y : Sl S} : ∀ {j : Nat}, nth (put γ i y) j = if j = i ∧ i < γ.length then y else nth γ j := by
  induction γ generalizing i with
  | nil => intro j; simp [put, nth]
  | cons x r ih =>
    intro j
    cases i with
    | zero => cases j <;> simp [put, nth]
    | succ i =>
      cases j with
      | zero => simp [put, nth]
      | succ j => simp only [put, nth, ih, List.length_cons, Nat.add_lt_add_iff_right, Nat.add_right_cancel_iff]
theorem put_len {γ : Sls S} {i : Nat} {y : Sl S} : (put γ i y).length = γ.length := by
  induction γ generalizing i with
  | nil => rfl
  | cons x r ih => cases i <;> simp [put, ih]
theorem nth_lifts {p : T → S} {γ : Sls S} : ∀ {j : Nat}, nth (lifts p γ) j = (nth γ j).lift p := by
  induction γ with
  | nil => intro j; rfl
  | cons x r ih => intro j; cases j <;> simp [lifts, nth, ih]
theorem lifts_len {p : T → S} {γ : Sls S} : (lifts p γ).length = γ.length := by
  induction γ with
  | nil => rfl
  | cons x r ih => simp [lifts, ih]
theorem nth_out {γ : Sls S} {j : Nat} (h : γ.length ≤ j) : nth γ j = .un := by
  induction γ generalizing j with
  | nil => rfl
  | cons x r ih => cases j with
    | zero => simp at h
    | succ j => exact ih (by simpa using h)
theorem SlOk.lift {μ : Mu} {p : T → S} {t : T} {o : Option (Option D)} {x : Sl S} : SlOk μ t o (x.lift p) ↔ SlOk μ (p t) o x := by
  cases x with
  | un => exact Iff.rfl
  | val f => exact Iff.rfl
  | cel q f => cases q <;> exact Iff.rfl
end
structure Enc {S : Type} (γ : Sls S) (s : S) (e : Ev) (μ : Mu) : Prop where
  len : e.length = γ.length
  ok : ∀ i, SlOk μ s e[i]? (nth γ i)
  dj : ∀ i j n, (nth γ i).isC = true → (nth γ j).isC = true → e[i]? = some (some (.ref n)) → e[j]? = some (some (.ref n)) → i = j
section
variable {S T : Type} {γ : Sls S} {s : S} {e : Ev} {μ : Mu}
theorem Enc.lift {p : T → S} {t : T} (h : Enc γ (p t) e μ) : Enc (lifts p γ) t e μ where
  len := by rw [lifts_len]; exact h.len
  ok := fun i => by rw [nth_lifts]; exact SlOk.lift.mpr (h.ok i)
  dj := fun i j n a b => by
    rw [nth_lifts] at a b
    refine h.dj i j n ?_ ?_
    · revert a; cases nth γ i <;> exact id
    · revert b; cases nth γ j <;> exact id
/-- slots known less -/
theorem Enc.setX (h : Enc γ s e μ) (i : Nat) (y : Sl S) (o : Option D) (hy : i < γ.length → SlOk μ s (some o) y) (hc : y.isC = true → ∀ j n, (nth γ j).isC = true → e[j]? = some (some (.ref n)) → o = some (.ref n) → j = i) : Enc (put γ i y) s (e.set i o) μ where
  len := by rw [put_len, List.length_set]; exact h.len
  ok := fun j => by
    rw [nth_put]
    split
    · rename_i hj
      rw [hj.1, List.getElem?_set_self (by rw [h.len]; exact hj.2)]
      exact hy hj.2
    · rename_i hj
      by_cases hji : j = i
      · have : γ.length ≤ i := by
          rcases Nat.lt_or_ge i γ.length with z | z
          · exact absurd ⟨hji, z⟩ hj
          · exact z
        rw [hji, nth_out this]; trivial
      · rw [List.getElem?_set_ne (Ne.symm hji)]; exact h.ok j
  dj := fun a b n ca cb ea eb => by
    rw [nth_put] at ca cb
    by_cases ha : a = i ∧ i < γ.length
    · rw [if_pos ha] at ca
      rw [ha.1, List.getElem?_set_self (by rw [h.len]; exact ha.2)] at ea
      cases ea
      by_cases hb : b = i ∧ i < γ.length
      · rw [ha.1, hb.1]
      · rw [if_neg hb] at cb
        by_cases hbi : b = i
        · rw [ha.1, hbi]
        · rw [List.getElem?_set_ne (Ne.symm hbi)] at eb
          exact absurd (hc ca b n cb eb rfl) hbi
    · rw [if_neg ha] at ca
      by_cases hai : a = i
      · have : γ.length ≤ i := by
          rcases Nat.lt_or_ge i γ.length with z | z
          · exact absurd ⟨hai, z⟩ ha
          · exact z
        rw [hai, nth_out this] at ca; cases ca
      · rw [List.getElem?_set_ne (Ne.symm hai)] at ea
        by_cases hb : b = i ∧ i < γ.length
        · rw [if_pos hb] at cb
          rw [hb.1, List.getElem?_set_self (by rw [h.len]; exact hb.2)] at eb
          cases eb
          exact absurd (hc cb a n ca ea rfl) hai
        · rw [if_neg hb] at cb
          by_cases hbi : b = i
          · have : γ.length ≤ i := by
              rcases Nat.lt_or_ge i γ.length with z | z
              · exact absurd ⟨hbi, z⟩ hb
              · exact z
            rw [hbi, nth_out this] at cb; cases cb
          · rw [List.getElem?_set_ne (Ne.symm hbi)] at eb
            exact h.dj a b n ca cb ea eb
theorem Enc.setV (h : Enc γ s e μ) (i : Nat) (f : S → D) : Enc (put γ i (.val f)) s (e.set i (some (f s))) μ := h.setX i _ _ (fun _ => rfl) fun z => by cases z
theorem Enc.setU (h : Enc γ s e μ) (i : Nat) (o : Option D) : Enc (put γ i .un) s (e.set i o) μ := h.setX i _ _ (fun _ => trivial) fun z => by cases z
theorem Enc.celLt (h : Enc γ s e μ) {j n : Nat} (hc : (nth γ j).isC = true) (he : e[j]? = some (some (.ref n))) : n < μ.length := by
  have := h.ok j
  cases q : nth γ j with
  | un => rw [q] at hc; cases hc
  | val f => rw [q] at hc; cases hc
  | cel o f =>
    rw [q] at this
    cases o with
    | none =>
      obtain ⟨m, a, b⟩ := this
      rw [he] at a; cases a
      exact (List.getElem?_eq_some_iff.mp b).1
    | some m =>
      obtain ⟨a, b⟩ := this
      rw [he] at a; cases a
      exact (List.getElem?_eq_some_iff.mp b).1
theorem Enc.grow (h : Enc γ s e μ) (d : D) : Enc γ s e (μ ++ [d]) := by
  refine ⟨h.len, fun i => ?_, h.dj⟩
  have := h.ok i
  revert this
  cases nth γ i with
  | un => exact fun _ => trivial
  | val f => exact fun z => z
  | cel o f =>
    cases o with
    | none => exact fun ⟨n, a, b⟩ => ⟨n, a, by rw [List.getElem?_append_left (List.getElem?_eq_some_iff.mp b).1]; exact b⟩
    | some n => exact fun ⟨a, b⟩ => ⟨a, by rw [List.getElem?_append_left (List.getElem?_eq_some_iff.mp b).1]; exact b⟩
theorem Enc.setC (h : Enc γ s e μ) (i : Nat) (f : S → D) : Enc (put γ i (.cel (some μ.length) f)) s (e.set i (some (.ref μ.length))) (μ ++ [f s]) :=
  (h.grow (f s)).setX i _ _ (fun _ => ⟨rfl, by simp⟩) fun _ j n hc he z => by
    cases z
    exact absurd (h.celLt hc he) (Nat.lt_irrefl _)
/-- a cell is changed -/
theorem Enc.mut (h : Enc γ s e μ) {i n : Nat} {f f' : S → D} {o : Option Nat} (hi : nth γ i = .cel o f) (he : e[i]? = some (some (.ref n))) : Enc (put γ i (.cel o f')) s e (μ.set n (f' s)) := by
  have hl : i < γ.length := by
    rcases Nat.lt_or_ge i γ.length with z | z
    · exact z
    · rw [nth_out z] at hi; cases hi
  have hn : n < μ.length := h.celLt (by rw [hi]; rfl) he
  have hk := h.ok i
  rw [hi] at hk
  refine ⟨by rw [put_len]; exact h.len, fun j => ?_, fun a b m ca cb ea eb => ?_⟩
  · rw [nth_put]
    split
    · rename_i hj
      rw [hj.1]
      cases o with
      | none => exact ⟨n, he, List.getElem?_set_self hn⟩
      | some n' =>
        obtain ⟨a, b⟩ := hk
        rw [he] at a; cases a
        exact ⟨he, List.getElem?_set_self hn⟩
    · rename_i hj
      have hji : j ≠ i := fun z => hj ⟨z, hl⟩
      have := h.ok j
      have dj := h.dj j i
      revert this dj
      cases nth γ j with
      | un => exact fun _ _ => trivial
      | val g => exact fun z _ => z
      | cel p g =>
        cases p with
        | none => exact fun ⟨m, a, b⟩ dj => ⟨m, a, by
            rw [List.getElem?_set_ne]
            · exact b
            · rintro rfl; exact hji (dj _ rfl (by rw [hi]; rfl) a he)⟩
        | some m => exact fun ⟨a, b⟩ dj => ⟨a, by
            rw [List.getElem?_set_ne]
            · exact b
            · rintro rfl; exact hji (dj _ rfl (by rw [hi]; rfl) a he)⟩
  · have key : ∀ c, (nth (put γ i (.cel o f')) c).isC = true → (nth γ c).isC = true := fun c hc => by
      rw [nth_put] at hc
      split at hc
      · rename_i hh; rw [hh.1, hi]; rfl
      · exact hc
    exact h.dj a b m (key a ca) (key b cb) ea eb
theorem Enc.celN (h : Enc γ s e μ) {i n : Nat} {f : S → D} (hi : nth γ i = .cel (some n) f) : e[i]? = some (some (.ref n)) ∧ μ[n]? = some (f s) := by
  have := h.ok i
  rw [hi] at this
  exact this
theorem Enc.cel (h : Enc γ s e μ) {i : Nat} {o : Option Nat} {f : S → D} (hi : nth γ i = .cel o f) : ∃ n, e[i]? = some (some (.ref n)) ∧ μ[n]? = some (f s) := by
  have := h.ok i
  rw [hi] at this
  cases o with
  | none => exact this
  | some n => exact ⟨n, this⟩
theorem Enc.val (h : Enc γ s e μ) {i : Nat} {f : S → D} (hi : nth γ i = .val f) : e[i]? = some (some (f s)) := by
  have := h.ok i
  rw [hi] at this
  exact this
end

/-! ### slots known less -/
def WkS {S T : Type} (p : S → T) : Sl S → Sl T → Prop
  | _, .un => True
  | .val f, .val g => ∀ s, f s = g (p s)
  | .cel (some n) f, .cel (some m) g => n = m ∧ ∀ s, f s = g (p s)
  | .cel _ f, .cel none g => ∀ s, f s = g (p s)
  | _, _ => False
def Wk {S T : Type} (p : S → T) : Sls S → Sls T → Prop
  | [], [] => True
  | x :: r, y :: q => WkS p x y ∧ Wk p r q
  | _, _ => False
theorem Wk.len {S T : Type} {p : S → T} : ∀ {γ : Sls S} {δ : Sls T}, Wk p γ δ → δ.length = γ.length
  | [], [], _ => rfl
  | x :: r, y :: q, h => by simp [Wk.len h.2]
  | [], _ :: _, h => h.elim
  | _ :: _, [], h => h.elim
theorem Wk.at {S T : Type} {p : S → T} : ∀ {γ : Sls S} {δ : Sls T}, Wk p γ δ → ∀ i, WkS p (nth γ i) (nth δ i)
  | [], [], _, i => trivial
  | x :: r, y :: q, h, 0 => h.1
  | x :: r, y :: q, h, i + 1 => Wk.at h.2 i
  | [], _ :: _, h, _ => h.elim
  | _ :: _, [], h, _ => h.elim
theorem Enc.wk {S T : Type} {p : S → T} {γ : Sls S} {δ : Sls T} {s : S} {e : Ev} {μ : Mu} (w : Wk p γ δ) (h : Enc γ s e μ) : Enc δ (p s) e μ where
  len := by rw [w.len]; exact h.len
  ok := fun i => by
    have a := w.at i
    have b := h.ok i
    revert a b
    cases nth δ i with
    | un => exact fun _ _ => trivial
    | val g =>
      cases nth γ i with
      | un => exact fun a _ => a.elim
      | val f => exact fun a b => by show _ = _; rw [← a s]; exact b
      | cel o f => cases o <;> exact fun a _ => a.elim
    | cel o g =>
      cases nth γ i with
      | un => exact fun a _ => by cases o <;> exact a.elim
      | val f => exact fun a _ => by cases o <;> exact a.elim
      | cel o' f =>
        cases o' with
        | none =>
          cases o with
          | none => exact fun a ⟨n, x, y⟩ => ⟨n, x, by rw [y, a s]⟩
          | some m => exact fun a _ => a.elim
        | some n =>
          cases o with
          | none => exact fun a ⟨x, y⟩ => ⟨n, x, by rw [y, a s]⟩
          | some m => exact fun a ⟨x, y⟩ => by obtain ⟨rfl, a⟩ := a; exact ⟨x, by rw [y, a s]⟩
  dj := fun i j n ci cj => by
    have key : ∀ k, (nth δ k).isC = true → (nth γ k).isC = true := fun k hk => by
      have a := w.at k
      revert a hk
      cases nth δ k with
      | un => exact fun z _ => by cases z
      | val g => exact fun z _ => by cases z
      | cel o g =>
        cases nth γ k with
        | un => exact fun _ a => by cases o <;> exact a.elim
        | val f => exact fun _ a => by cases o <;> exact a.elim
        | cel o' f => exact fun _ _ => rfl
    exact h.dj i j n (key i ci) (key j cj)

/-! ### what follows a typed result -/
def Sim {α : Type} (x : Bool) (r : R α) (q : α → Prop) (w : Nat → List D → Prop) : Prop := match r with
  | .ok a => q a
  | .ex c ds => x = true → w c ds
  | .no => True
theorem Sim.bind {α β : Type} {x : Bool} {r : R α} {f : α → R β} {q : β → Prop} {w : Nat → List D → Prop} : Sim x (r.bind f) q w ↔ Sim x r (fun a => Sim x (f a) q w) w := by
  cases r <;> exact Iff.rfl
theorem Sim.imp {α : Type} {x : Bool} {r : R α} {q q' : α → Prop} {w w' : Nat → List D → Prop} (h : Sim x r q w) (a : ∀ a, q a → q' a) (b : ∀ c ds, w c ds → w' c ds) : Sim x r q' w' := by
  cases r with
  | ok v => exact a v h
  | ex c ds => exact fun z => b c ds (h z)
  | no => trivial
theorem Sim.gd {α : Type} {x : Bool} {p : Prop} [Decidable p] {r : R α} {q : α → Prop} {w : Nat → List D → Prop} (h : p → Sim x r q w) : Sim x (R.gd p r) q w := by
  unfold R.gd
  split
  · exact h ‹_›
  · trivial

def isCl : D → Bool
  | .lst _ => true | .dic _ => true | .dit _ => true | .obj _ _ => true | _ => false
/-- a value, or its cell -/
def Vw (μ : Mu) (d d' : D) : Prop := d = d' ∨ ∃ n, d = .ref n ∧ μ[n]? = some d' ∧ isCl d' = true
theorem Vw.eq {μ : Mu} {d d' : D} (h : Vw μ d d') (n : isCl d' = false) : d = d' := by
  rcases h with h | ⟨_, _, _, z⟩
  · exact h
  · rw [n] at z; cases z
/-- depths -/
inductive Dt where
  | o | s (d : Dt) | m (a b : Dt)
def Dt.n : Dt → Nat
  | .o => 1
  | .s d => d.n + 1
  | .m a b => max a.n b.n
/-- a kind of values without cells, of depth below n -/
class Kn {α : Type} (k : α → D) (n : outParam Dt) : Prop where
  nr : ∀ a, nr (k a) = true
  il : ∀ a μ m, n.n ≤ m → inl true μ m (k a) = some (k a)
/-- .. whose views are whole -/
class Kv {α : Type} (k : α → D) : Prop where
  vw : ∀ a μ d, Vw μ d (k a) → vw μ d = some (k a)
/-- .. without frozen lists, dicts, objects -/
class Kf {α : Type} (k : α → D) (n : outParam Dt) : Prop where
  il : ∀ a μ m, n.n ≤ m → inl false μ m (k a) = some (k a)
section
variable {S α β δ : Type} (x : Bool) (γ : Sls S)
/-- an expression that hands back a frozen value -/
def TD (m : M) (k : α → D) (g : S → R α) : Prop := ∀ s e μ, Enc γ s e μ → Sim x (g s) (fun a => m e μ = .ok (k a, μ)) (fun c ds => m e μ = .ex c ds μ)
/-- .. or a cell that is there -/
def TE (m : M) (k : α → D) (g : S → R α) : Prop := ∀ s e μ, Enc γ s e μ → Sim x (g s) (fun a => ∃ d, m e μ = .ok (d, μ) ∧ Vw μ d (k a)) (fun c ds => m e μ = .ex c ds μ)
/-- .. a new cell -/
def TC (m : M) (k : α → D) (g : S → R α) : Prop := ∀ s e μ, Enc γ s e μ → Sim x (g s) (fun a => m e μ = .ok (.ref μ.length, μ ++ [k a])) (fun c ds => m e μ = .ex c ds μ)
def TT (m : MT) (g : S → R Bool) : Prop := ∀ s e μ, Enc γ s e μ → Sim x (g s) (fun a => m e μ = .ok (a, μ)) (fun c ds => m e μ = .ex c ds μ)
def VwL (μ : Mu) : List D → List D → Prop
  | [], [] => True
  | d :: r, d' :: r' => Vw μ d d' ∧ VwL μ r r'
  | _, _ => False
/-- arguments -/
def TA {A : Type} (ms : MA) (ka : A → List D) (G : (β : Type) → S → (A → R β) → R β) : Prop := ∀ s e μ, Enc γ s e μ →
  (∃ a ds, ms e μ = .ok (ds, μ) ∧ VwL μ ds (ka a) ∧ vws μ ds = some (ka a) ∧ ∀ β (c : A → R β), G β s c = c a) ∨ (∃ y fs, (x = true → ms e μ = .ex y fs μ) ∧ ∀ β (c : A → R β), G β s c = .ex y fs) ∨ (∀ β (c : A → R β), G β s c = .no)
/-- .. all frozen -/
def TAD {A : Type} (ms : MA) (ka : A → List D) (G : (β : Type) → S → (A → R β) → R β) : Prop := ∀ s e μ, Enc γ s e μ →
  (∃ a, ms e μ = .ok (ka a, μ) ∧ nrs (ka a) = true ∧ ∀ β (c : A → R β), G β s c = c a) ∨ (∃ y fs, (x = true → ms e μ = .ex y fs μ) ∧ ∀ β (c : A → R β), G β s c = .ex y fs) ∨ (∀ β (c : A → R β), G β s c = .no)
end
section
variable {S α β δ A : Type} {x : Bool} {γ : Sls S} {ma mb mc : M} {ka : α → D} {kb : β → D} {kc : δ → D} {ga : S → R α} {gb : S → R β} {gc : S → R δ} {ta tb : MT} {ba bb : S → R Bool} {ms : MA} {kas : A → List D} {G : (β : Type) → S → (A → R β) → R β}
theorem te_td (h : TD x γ ma ka ga) : TE x γ ma ka ga := fun s e μ E => (h s e μ E).imp (fun a q => ⟨_, q, .inl rfl⟩) fun _ _ q => q
theorem td_k (a : α) (k : α → D) : TD x γ (cK (k a)) k (fun _ => .ok a) := fun s e μ E => rfl
theorem td_var (i : Nat) {k : α → D} {f : S → α} (h : nth γ i = .val (fun s => k (f s)) := by rfl) : TD x γ (cV i) k (fun s => .ok (f s)) := fun s e μ E => by
  show cV i e μ = _
  unfold cV
  rw [E.val h]
theorem te_cel (i : Nat) {k : α → D} {f : S → α} {o : Option Nat} (h : nth γ i = .cel o (fun s => k (f s)) := by rfl) (hc : ∀ a, isCl (k a) = true := by intro _; rfl) : TE x γ (cV i) k (fun s => .ok (f s)) := fun s e μ E => by
  obtain ⟨n, a, b⟩ := E.cel h
  refine ⟨.ref n, ?_, .inr ⟨n, rfl, b, hc _⟩⟩
  unfold cV
  rw [a]
/-- an operation of two values -/
def Op2T (x : Bool) (f : F2) (ka : α → D) (kb : β → D) (kc : δ → D) (op : α → β → R δ) : Prop := ∀ a b μ d1 d2, Vw μ d1 (ka a) → Vw μ d2 (kb b) → Sim x (op a b) (fun c => f d1 d2 μ = .ok (kc c, μ)) (fun c ds => f d1 d2 μ = .ex c ds μ)
def Op1T (x : Bool) (f : F1) (ka : α → D) (kc : δ → D) (op : α → R δ) : Prop := ∀ a μ d1, Vw μ d1 (ka a) → Sim x (op a) (fun c => f d1 μ = .ok (kc c, μ)) (fun c ds => f d1 μ = .ex c ds μ)
def OpNT (x : Bool) (f : FN) (ka : A → List D) (kc : δ → D) (op : A → R δ) : Prop := ∀ a μ ds, VwL μ ds (ka a) → Sim x (op a) (fun c => f ds μ = .ok (kc c, μ)) (fun c gs => f ds μ = .ex c gs μ)
def OpNC (x : Bool) (f : FN) (ka : A → List D) (kc : δ → D) (op : A → R δ) : Prop := ∀ a μ ds, VwL μ ds (ka a) → Sim x (op a) (fun c => f ds μ = .ok (.ref μ.length, μ ++ [kc c])) (fun c gs => f ds μ = .ex c gs μ)
theorem td_bin {f : F2} {op : α → β → R δ} (ha : TE x γ ma ka ga) (hb : TE x γ mb kb gb) (ho : Op2T x f ka kb kc op) : TD x γ (cB f ma mb) kc (fun s => (ga s).bind fun a => (gb s).bind fun b => op a b) := fun s e μ E => by
  refine Sim.bind.mpr ((ha s e μ E).imp (fun a ⟨d1, q1, v1⟩ => ?_) fun c ds q => by unfold cB; rw [q]; rfl)
  refine Sim.bind.mpr ((hb s e μ E).imp (fun b ⟨d2, q2, v2⟩ => ?_) fun c ds q => by unfold cB; rw [q1]; show (mb e μ).bind _ = _; rw [q]; rfl)
  have e1 : cB f ma mb e μ = f d1 d2 μ := by
    unfold cB; rw [q1]; show (mb e μ).bind _ = _; rw [q2]; rfl
  rw [e1]
  exact ho a b μ d1 d2 v1 v2
theorem td_un {f : F1} {op : α → R δ} (ha : TE x γ ma ka ga) (ho : Op1T x f ka kc op) : TD x γ (cU f ma) kc (fun s => (ga s).bind op) := fun s e μ E => by
  refine Sim.bind.mpr ((ha s e μ E).imp (fun a ⟨d1, q1, v1⟩ => ?_) fun c ds q => by unfold cU; rw [q]; rfl)
  have e1 : cU f ma e μ = f d1 μ := by unfold cU; rw [q1]; rfl
  rw [e1]
  exact ho a μ d1 v1
theorem ta_nil : TA x γ cNil (fun _ : Unit => []) (fun _ _ c => c ()) := fun s e μ E => .inl ⟨(), [], rfl, trivial, rfl, fun _ _ => rfl⟩
theorem ta_cons [Kv ka] (ha : TE x γ ma ka ga) (h : TA x γ ms kas G) : TA x γ (cCons ma ms) (fun a : α × A => ka a.1 :: kas a.2) (fun β s c => (ga s).bind fun a => G β s fun r => c (a, r)) := fun s e μ E => by
  have q := ha s e μ E
  dsimp only
  revert q
  cases ga s with
  | ok a =>
    rintro ⟨d, q1, v1⟩
    rcases h s e μ E with ⟨r, ds, q2, v2, v3, hc⟩ | ⟨y, fs, q2, hc⟩ | hc
    · exact .inl ⟨(a, r), d :: ds, by unfold cCons; rw [q1]; show (ms e μ).bind _ = _; rw [q2]; rfl, ⟨v1, v2⟩, by unfold vws; rw [Kv.vw a μ d v1, v3], fun β c => hc β _⟩
    · exact .inr (.inl ⟨y, fs, fun z => by unfold cCons; rw [q1]; show (ms e μ).bind _ = _; rw [q2 z]; rfl, fun β c => hc β _⟩)
    · exact .inr (.inr fun β c => hc β _)
  | ex y fs => exact fun q => .inr (.inl ⟨y, fs, fun z => by unfold cCons; rw [q z]; rfl, fun _ _ => rfl⟩)
  | no => exact fun _ => .inr (.inr fun _ _ => rfl)
theorem tad_nil : TAD x γ cNil (fun _ : Unit => []) (fun _ _ c => c ()) := fun s e μ E => .inl ⟨(), rfl, rfl, fun _ _ => rfl⟩
theorem tad_cons {n : Dt} [Kn ka n] (ha : TD x γ ma ka ga) (h : TAD x γ ms kas G) : TAD x γ (cCons ma ms) (fun a : α × A => ka a.1 :: kas a.2) (fun β s c => (ga s).bind fun a => G β s fun r => c (a, r)) := fun s e μ E => by
  have q := ha s e μ E
  dsimp only
  revert q
  cases ga s with
  | ok a =>
    intro q1
    have q1 : ma e μ = .ok (ka a, μ) := q1
    rcases h s e μ E with ⟨r, q2, v3, hc⟩ | ⟨y, fs, q2, hc⟩ | hc
    · exact .inl ⟨(a, r), by unfold cCons; rw [q1]; show (ms e μ).bind _ = _; rw [q2]; rfl, by show (nr _ && nrs _) = true; rw [Kn.nr a, v3]; rfl, fun β c => hc β _⟩
    · exact .inr (.inl ⟨y, fs, fun z => by unfold cCons; rw [q1]; show (ms e μ).bind _ = _; rw [q2 z]; rfl, fun β c => hc β _⟩)
    · exact .inr (.inr fun β c => hc β _)
  | ex y fs => exact fun q => .inr (.inl ⟨y, fs, fun z => by unfold cCons; rw [q z]; rfl, fun _ _ => rfl⟩)
  | no => exact fun _ => .inr (.inr fun _ _ => rfl)
theorem vwL_refl {μ : Mu} : ∀ {ds : List D}, VwL μ ds ds
  | [] => trivial
  | _ :: _ => ⟨.inl rfl, vwL_refl⟩
theorem vws_nrs {μ : Mu} : ∀ {ds : List D}, nrs ds = true → vws μ ds = some ds
  | [], _ => rfl
  | d :: ds, h => by
    have h : (nr d && nrs ds) = true := h
    simp only [Bool.and_eq_true] at h
    unfold vws vw
    rw [if_pos h.1, vws_nrs h.2]
theorem ta_tad (h : TAD x γ ms kas G) : TA x γ ms kas G := fun s e μ E => by
  rcases h s e μ E with ⟨r, q2, v3, hc⟩ | y | y
  · exact .inl ⟨r, _, q2, vwL_refl, vws_nrs v3, hc⟩
  · exact .inr (.inl y)
  · exact .inr (.inr y)
/-- a built-in -/
theorem td_fn {f : FN} {op : A → R δ} (ha : TA x γ ms kas G) (ho : OpNT x f kas kc op) : TD x γ (cF f ms) kc (fun s => G δ s op) := fun s e μ E => by
  dsimp only
  rcases ha s e μ E with ⟨a, ds, q, v, _, hc⟩ | ⟨y, fs, q, hc⟩ | hc
  · rw [hc]
    have : cF f ms e μ = f ds μ := by unfold cF; rw [q]; rfl
    rw [this]
    exact ho a μ ds v
  · rw [hc]
    exact fun z => by unfold cF; rw [q z]; rfl
  · rw [hc]; trivial
theorem tc_fn {f : FN} {op : A → R δ} (ha : TA x γ ms kas G) (ho : OpNC x f kas kc op) : TC x γ (cF f ms) kc (fun s => G δ s op) := fun s e μ E => by
  dsimp only
  rcases ha s e μ E with ⟨a, ds, q, v, _, hc⟩ | ⟨y, fs, q, hc⟩ | hc
  · rw [hc]
    have : cF f ms e μ = f ds μ := by unfold cF; rw [q]; rfl
    rw [this]
    exact ho a μ ds v
  · rw [hc]
    exact fun z => by unfold cF; rw [q z]; rfl
  · rw [hc]; trivial
/-! tests -/
theorem tt_val {k : Bool → D} {g : S → R Bool} (h : TD x γ ma D.bl g) : TT x γ (tVal ma) g := fun s e μ E => (h s e μ E).imp (fun a q => by unfold tVal; rw [q]; rfl) fun c ds q => by unfold tVal; rw [q]; rfl
theorem tt_not (h : TT x γ ta ba) : TT x γ (tNotD ta) (fun s => (ba s).bind fun b => .ok (!b)) := fun s e μ E => Sim.bind.mpr ((h s e μ E).imp (fun a q => by show tNotD ta e μ = _; unfold tNotD; rw [q]; rfl) fun c ds q => by unfold tNotD; rw [q]; rfl)
theorem tt_and (h : TT x γ ta ba) (k : TT x γ tb bb) : TT x γ (tAndD ta tb) (fun s => (ba s).bind fun b => if b then bb s else .ok false) := fun s e μ E => Sim.bind.mpr ((h s e μ E).imp (fun a q => by
  have e1 : tAndD ta tb e μ = if a then tb e μ else .ok (false, μ) := by unfold tAndD; rw [q]; rfl
  rw [e1]
  cases a with
  | true => exact k s e μ E
  | false => exact rfl) fun c ds q => by unfold tAndD; rw [q]; rfl)
theorem tt_or (h : TT x γ ta ba) (k : TT x γ tb bb) : TT x γ (tOrD ta tb) (fun s => (ba s).bind fun b => if b then .ok true else bb s) := fun s e μ E => Sim.bind.mpr ((h s e μ E).imp (fun a q => by
  have e1 : tOrD ta tb e μ = if a then .ok (true, μ) else tb e μ := by unfold tOrD; rw [q]; rfl
  rw [e1]
  cases a with
  | false => exact k s e μ E
  | true => exact rfl) fun c ds q => by unfold tOrD; rw [q]; rfl)
theorem td_and {ga gb : S → R Bool} (h : TD x γ ma D.bl ga) (k : TD x γ mb D.bl gb) : TD x γ (cAndD ma mb) D.bl (fun s => (ga s).bind fun b => if b then gb s else .ok false) := fun s e μ E => Sim.bind.mpr ((h s e μ E).imp (fun a q => by
  cases a with
  | true =>
    have e1 : cAndD ma mb e μ = mb e μ := by unfold cAndD; rw [q]; rfl
    rw [e1]; exact k s e μ E
  | false =>
    have e1 : cAndD ma mb e μ = .ok (.bl false, μ) := by unfold cAndD; rw [q]; rfl
    rw [e1]; exact rfl) fun c ds q => by unfold cAndD; rw [q]; rfl)
theorem td_or {ga gb : S → R Bool} (h : TD x γ ma D.bl ga) (k : TD x γ mb D.bl gb) : TD x γ (cOrD ma mb) D.bl (fun s => (ga s).bind fun b => if b then .ok true else gb s) := fun s e μ E => Sim.bind.mpr ((h s e μ E).imp (fun a q => by
  cases a with
  | false =>
    have e1 : cOrD ma mb e μ = mb e μ := by unfold cOrD; rw [q]; rfl
    rw [e1]; exact k s e μ E
  | true =>
    have e1 : cOrD ma mb e μ = .ok (.bl true, μ) := by unfold cOrD; rw [q]; rfl
    rw [e1]; exact rfl) fun c ds q => by unfold cOrD; rw [q]; rfl)
theorem td_not {ga : S → R Bool} (h : TD x γ ma D.bl ga) : TD x γ (cU dNot ma) D.bl (fun s => (ga s).bind fun b => .ok (!b)) := fun s e μ E => Sim.bind.mpr ((h s e μ E).imp (fun a q => by show cU dNot ma e μ = _; unfold cU; rw [q]; rfl) fun c ds q => by unfold cU; rw [q]; rfl)
theorem td_if {ga gb : S → R α} {k : α → D} (hc : TT x γ ta ba) (h : TD x γ ma k ga) (h2 : TD x γ mb k gb) : TD x γ (cIf ta ma mb) k (fun s => (ba s).bind fun b => if b then ga s else gb s) := fun s e μ E => Sim.bind.mpr ((hc s e μ E).imp (fun a q => by
  have e1 : cIf ta ma mb e μ = if a then ma e μ else mb e μ := by unfold cIf; rw [q]; rfl
  rw [e1]
  cases a with
  | true => exact h s e μ E
  | false => exact h2 s e μ E) fun c ds q => by unfold cIf; rw [q]; rfl)
/-- a < b < c -/
theorem td_ch {f g : F2} {op : α → β → R Bool} {op2 : β → δ → R Bool} (ha : TE x γ ma ka ga) (hb : TE x γ mb kb gb) (hc : TE x γ mc kc gc) (ho : Op2T x f ka kb D.bl op) (ho2 : Op2T x g kb kc D.bl op2) :
    TD x γ (cCh f g ma mb mc) D.bl (fun s => (ga s).bind fun a => (gb s).bind fun b => (op a b).bind fun t => if t then (gc s).bind fun c => op2 b c else .ok false) := fun s e μ E => by
  refine Sim.bind.mpr ((ha s e μ E).imp (fun a ⟨d1, q1, v1⟩ => ?_) fun c ds q => by unfold cCh; rw [q]; rfl)
  refine Sim.bind.mpr ((hb s e μ E).imp (fun b ⟨d2, q2, v2⟩ => ?_) fun c ds q => by unfold cCh; rw [q1]; show (mb e μ).bind _ = _; rw [q]; rfl)
  refine Sim.bind.mpr ((ho a b μ d1 d2 v1 v2).imp (fun t q3 => ?_) fun c ds q => by unfold cCh; rw [q1]; show (mb e μ).bind _ = _; rw [q2]; show (f d1 d2 μ).bind _ = _; rw [q]; rfl)
  cases t with
  | false => show cCh f g ma mb mc e μ = _; unfold cCh; rw [q1]; show (mb e μ).bind _ = _; rw [q2]; show (f d1 d2 μ).bind _ = _; rw [q3]; rfl
  | true =>
    have e0 : cCh f g ma mb mc e μ = (mc e μ).bind fun w => g d2 w.1 w.2 := by unfold cCh; rw [q1]; show (mb e μ).bind _ = _; rw [q2]; show (f d1 d2 μ).bind _ = _; rw [q3]; rfl
    rw [e0]
    refine Sim.bind.mpr ((hc s e μ E).imp (fun c ⟨d3, q4, v3⟩ => ?_) fun c ds q => by rw [q]; rfl)
    have e1 : ((mc e μ).bind fun w => g d2 w.1 w.2) = g d2 d3 μ := by rw [q4]; rfl
    rw [e1]
    exact ho2 b c μ d2 d3 v2 v3
end
end Lr

/-! Lr, part 33: statements, loops, defs with types. -/
namespace Lr
open PySem L2

inductive Fl (N L ρ : Type) where
  | nx (n : N) | bk (l : L) | ct (l : L) | rt (r : ρ)
def R.seq {Y N L ρ : Type} (r : R (Fl Y L ρ)) (f : Y → R (Fl N L ρ)) : R (Fl N L ρ) := r.bind fun o => match o with
  | .nx y => f y
  | .bk l => .ok (.bk l)
  | .ct l => .ok (.ct l)
  | .rt r => .ok (.rt r)
/-- what a body hands back; none, where it ends without -/
def R.fin {N L ρ : Type} (r : R (Fl N L ρ)) : R ρ := r.bind fun o => match o with
  | .rt r => .ok r
  | _ => .no
def R.finU {N L : Type} (r : R (Fl N L Unit)) : R Unit := r.bind fun o => match o with
  | .rt r => .ok r
  | .nx _ => .ok ()
  | _ => .no
section
variable {Y N L M ρ α : Type}
theorem R.seq_nx {y : Y} {f : Y → R (Fl N L ρ)} : R.seq (.ok (.nx y)) f = f y := id rfl
theorem R.seq_rt {y : ρ} {f : Y → R (Fl N L ρ)} : R.seq (.ok (.rt y)) f = .ok (.rt y) := id rfl
theorem R.seq_ct {y : L} {f : Y → R (Fl N L ρ)} : R.seq (.ok (.ct y)) f = .ok (.ct y) := id rfl
theorem R.seq_bk {y : L} {f : Y → R (Fl N L ρ)} : R.seq (.ok (.bk y)) f = .ok (.bk y) := id rfl
theorem R.seq_ex {c : Nat} {ds : List D} {f : Y → R (Fl N L ρ)} : R.seq (.ex c ds) f = .ex c ds := id rfl
theorem R.seq_if {p : Prop} [Decidable p] {a b : R (Fl Y L ρ)} {f : Y → R (Fl N L ρ)} : R.seq (if p then a else b) f = if p then R.seq a f else R.seq b f := by split <;> rfl
theorem R.seq_bind {r : R α} {h : α → R (Fl Y L ρ)} {f : Y → R (Fl N L ρ)} : R.seq (r.bind h) f = r.bind fun a => R.seq (h a) f := by cases r <;> rfl
theorem R.seq_seq {Z : Type} {r : R (Fl Z L ρ)} {h : Z → R (Fl Y L ρ)} {f : Y → R (Fl N L ρ)} : R.seq (R.seq r h) f = R.seq r fun a => R.seq (h a) f := by
  cases r with
  | ok o => cases o <;> rfl
  | ex => rfl
  | no => rfl
theorem R.fin_rt {r : ρ} : R.fin (N := N) (L := L) (.ok (.rt r)) = .ok r := id rfl
theorem R.fin_ex {c : Nat} {ds : List D} : R.fin (N := N) (L := L) (ρ := ρ) (.ex c ds) = .ex c ds := id rfl
theorem R.fin_if {p : Prop} [Decidable p] {a b : R (Fl N L ρ)} : R.fin (if p then a else b) = if p then R.fin a else R.fin b := by split <;> rfl
theorem R.fin_bind {r : R α} {h : α → R (Fl N L ρ)} : R.fin (r.bind h) = r.bind fun a => R.fin (h a) := by cases r <;> rfl
theorem R.fin_gd {p : Prop} [Decidable p] {a : R (Fl N L ρ)} : R.fin (R.gd p a) = R.gd p (R.fin a) := by unfold R.gd; split <;> rfl
theorem R.finU_rt {r : Unit} : R.finU (N := N) (L := L) (.ok (.rt r)) = .ok r := id rfl
theorem R.finU_nx {r : N} : R.finU (L := L) (.ok (.nx r)) = .ok () := id rfl
theorem R.finU_ex {c : Nat} {ds : List D} : R.finU (N := N) (L := L) (.ex c ds) = .ex c ds := id rfl
theorem R.finU_if {p : Prop} [Decidable p] {a b : R (Fl N L Unit)} : R.finU (if p then a else b) = if p then R.finU a else R.finU b := by split <;> rfl
theorem R.finU_bind {r : R α} {h : α → R (Fl N L Unit)} : R.finU (r.bind h) = r.bind fun a => R.finU (h a) := by cases r <;> rfl
end
/-! loops -/
def forL {X L M ρ : Type} (b : L → X → R (Fl L L ρ)) : List X → L → R (Fl L M ρ)
  | [], l => .ok (.nx l)
  | x :: r, l => (b l x).bind fun o => match o with
    | .nx l' => forL b r l'
    | .ct l' => forL b r l'
    | .bk l' => .ok (.nx l')
    | .rt r => .ok (.rt r)
def forR {X L M ρ : Type} (xs : List X) (l : L) (b : L → X → R (Fl L L ρ)) : R (Fl L M ρ) := R.gd (xs.length ≤ lineN) (forL b xs l)
def whL {L M ρ : Type} (c : L → R Bool) (b : L → R (Fl L L ρ)) : Nat → L → R (Fl L M ρ)
  | 0, _ => .no
  | n + 1, l => (c l).bind fun t => if t then (b l).bind fun o => match o with
      | .nx l' => whL c b n l'
      | .ct l' => whL c b n l'
      | .bk l' => .ok (.nx l')
      | .rt r => .ok (.rt r)
    else .ok (.nx l)
noncomputable def whR {L M ρ : Type} (l : L) (c : L → R Bool) (b : L → R (Fl L L ρ)) : R (Fl L M ρ) := whL c b fuel l
def lcL {X β : Type} (t : X → R Bool) (b : X → R β) : List X → R (List β)
  | [] => .ok []
  | x :: r => (t x).ne.bind fun z => if z then (b x).ne.bind fun y => (lcL t b r).bind fun ys => .ok (y :: ys) else lcL t b r
def lcR {X β : Type} (xs : List X) (t : X → R Bool) (b : X → R β) : R (List β) := R.gd (xs.length ≤ lineN) (lcL t b xs)

section
variable {S : Type}
/-- a statement with types: γ tells the slots; Qn, Ql, Qr, Qx what is known where it goes on, in the loop, back, up -/
def TB {N L ρ : Type} (x : Bool) (γ : Sls S) (m : SM) (Qn : S → N → Ev → Mu → Prop) (Ql : S → L → Ev → Mu → Prop) (Qr : ρ → D → Mu → Prop) (Qx : S → Ev → Mu → Prop) (g : S → R (Fl N L ρ)) : Prop :=
  ∀ s e μ, Enc γ s e μ → Sim x (g s) (fun o => match o with
    | .nx n => ∃ e' μ', m e μ = some (.nx e' μ') ∧ Qn s n e' μ'
    | .bk l => ∃ e' μ', m e μ = some (.bk e' μ') ∧ Ql s l e' μ'
    | .ct l => ∃ e' μ', m e μ = some (.ct e' μ') ∧ Ql s l e' μ'
    | .rt r => ∃ d μ', m e μ = some (.rt d μ') ∧ Qr r d μ') (fun c ds => ∃ e' μ', m e μ = some (.xc c ds e' μ') ∧ Qx s e' μ')
def NoNx (m : SM) : Prop := ∀ e μ e' μ', m e μ ≠ some (.nx e' μ')
theorem nn_seq {a b : SM} (h : NoNx b) : NoNx (sSeq a b) := fun e μ e' μ' z => by
  unfold sSeq at z
  split at z
  · exact h _ _ _ _ z
  · rename_i q
    exact q _ _ z
theorem nn_seq1 {a b : SM} (h : NoNx a) : NoNx (sSeq a b) := fun e μ e' μ' z => by
  unfold sSeq at z
  split at z
  · rename_i q; exact h _ _ _ _ q
  · rename_i q
    exact q _ _ z
theorem nn_ret {a : M} : NoNx (sRet a) := fun e μ e' μ' z => by
  unfold sRet eThen at z
  split at z <;> cases z
theorem nn_retN : NoNx sRetN := fun e μ e' μ' z => by cases z
theorem nn_brk : NoNx sBrk := fun e μ e' μ' z => by cases z
theorem nn_cnt : NoNx sCnt := fun e μ e' μ' z => by cases z
theorem nn_no : NoNx sNo := fun e μ e' μ' z => by cases z
theorem nn_if {c : MT} {a b : SM} (h : NoNx a) (k : NoNx b) : NoNx (sIf c a b) := fun e μ e' μ' z => by
  unfold sIf eThen at z
  split at z
  · dsimp only at z
    split at z
    · exact h _ _ _ _ z
    · exact k _ _ _ _ z
  · cases z
  · cases z
theorem seq_next {m : SM} : sSeq m sNext = m := by
  funext e μ
  unfold sSeq sNext
  split
  · rename_i h; rw [h]
  · rfl
theorem next_seq {m : SM} : sSeq sNext m = m := rfl
theorem seq_ifR {c : MT} {a b r : SM} (h : NoNx a) : sSeq (sIf c a b) r = sIf c a (sSeq b r) := by
  funext e μ
  show (match sIf c a b e μ with | some (.nx e' μ') => r e' μ' | o => o) = _
  unfold sIf eThen
  cases c e μ with
  | ok z =>
    dsimp only
    cases z.1 with
    | true =>
      rw [if_pos rfl, if_pos rfl]
      split
      · rename_i q; exact absurd q (h _ _ _ _)
      · rfl
    | false => rfl
  | ex => rfl
  | no => rfl
theorem seq_ifL {c : MT} {a b r : SM} (h : NoNx b) : sSeq (sIf c a b) r = sIf c (sSeq a r) b := by
  funext e μ
  show (match sIf c a b e μ with | some (.nx e' μ') => r e' μ' | o => o) = _
  unfold sIf eThen
  cases c e μ with
  | ok z =>
    dsimp only
    cases z.1 with
    | false =>
      show (match b e z.2 with | some (.nx e' μ') => r e' μ' | o => o) = b e z.2
      split
      · rename_i q; exact absurd q (h _ _ _ _)
      · rfl
    | true => rfl
  | ex => rfl
  | no => rfl
end
section
variable {S α β N L ρ A : Type} {x : Bool} {γ : Sls S} {Qn : S → N → Ev → Mu → Prop} {Ql : S → L → Ev → Mu → Prop} {Qr : ρ → D → Mu → Prop} {Qx : S → Ev → Mu → Prop} {ma mb mi : M} {m a b r : SM} {k : α → D} {ga : S → R α} {ct : MT} {gt : S → R Bool} {gA gB g : S → R (Fl N L ρ)}
theorem tb_last (h : TB x γ (sSeq m sNext) Qn Ql Qr Qx g) : TB x γ m Qn Ql Qr Qx g := by rw [seq_next] at h; exact h
theorem tb_end (p : S → N) (w : ∀ s e μ, Enc γ s e μ → Qn s (p s) e μ) : TB x γ sNext Qn Ql Qr Qx (fun s => .ok (.nx (p s))) := fun s e μ E => ⟨e, μ, rfl, w s e μ E⟩
theorem tb_ret {k : ρ → D} {ga : S → R ρ} (h : TE x γ ma k ga) (hq : ∀ a d μ, Vw μ d (k a) → Qr a d μ) (hx : x = true → ∀ s e μ, Enc γ s e μ → Qx s e μ) : TB x γ (sRet ma) Qn Ql Qr Qx (fun s => (ga s).bind fun a => .ok (.rt a)) := fun s e μ E => by
  refine Sim.bind.mpr ?_
  have h := h s e μ E
  revert h
  cases ga s with
  | ok a => exact fun ⟨d, q, v⟩ => ⟨d, μ, by unfold sRet eThen; rw [q], hq _ _ _ v⟩
  | ex c ds => exact fun q z => ⟨e, μ, by unfold sRet eThen; rw [q z], hx z s e μ E⟩
  | no => exact fun _ => trivial
theorem tb_retD {k : ρ → D} {ga : S → R ρ} (h : TD x γ ma k ga) (hq : ∀ a μ, Qr a (k a) μ) (hx : x = true → ∀ s e μ, Enc γ s e μ → Qx s e μ) : TB x γ (sRet ma) Qn Ql Qr Qx (fun s => (ga s).bind fun a => .ok (.rt a)) := fun s e μ E => by
  refine Sim.bind.mpr ?_
  have h := h s e μ E
  revert h
  cases ga s with
  | ok a => exact fun q => ⟨k a, μ, by unfold sRet eThen; rw [q], hq _ _⟩
  | ex c ds => exact fun q z => ⟨e, μ, by unfold sRet eThen; rw [q z], hx z s e μ E⟩
  | no => exact fun _ => trivial
theorem tb_retC {k : ρ → D} {ga : S → R ρ} (h : TC x γ ma k ga) (hq : ∀ a n μ, μ[n]? = some (k a) → Qr a (.ref n) μ) (hx : x = true → ∀ s e μ, Enc γ s e μ → Qx s e μ) : TB x γ (sRet ma) Qn Ql Qr Qx (fun s => (ga s).bind fun a => .ok (.rt a)) := fun s e μ E => by
  refine Sim.bind.mpr ?_
  have h := h s e μ E
  revert h
  cases ga s with
  | ok a => exact fun q => ⟨_, _, by unfold sRet eThen; rw [q], hq _ _ _ (by simp)⟩
  | ex c ds => exact fun q z => ⟨e, μ, by unfold sRet eThen; rw [q z], hx z s e μ E⟩
  | no => exact fun _ => trivial
theorem tb_retN {Qr : Unit → D → Mu → Prop} (hq : ∀ μ, Qr () .non μ) : TB x γ sRetN Qn Ql Qr Qx (fun s => .ok (.rt ())) := fun s e μ E => ⟨_, _, rfl, hq _⟩
theorem tb_brk (p : S → L) (w : ∀ s e μ, Enc γ s e μ → Ql s (p s) e μ) : TB x γ sBrk Qn Ql Qr Qx (fun s => .ok (.bk (p s))) := fun s e μ E => ⟨e, μ, rfl, w s e μ E⟩
theorem tb_cnt (p : S → L) (w : ∀ s e μ, Enc γ s e μ → Ql s (p s) e μ) : TB x γ sCnt Qn Ql Qr Qx (fun s => .ok (.ct (p s))) := fun s e μ E => ⟨e, μ, rfl, w s e μ E⟩
theorem tb_if (h : TT x γ ct gt) (ha : TB x γ a Qn Ql Qr Qx gA) (hb : TB x γ b Qn Ql Qr Qx gB) (hx : x = true → ∀ s e μ, Enc γ s e μ → Qx s e μ) : TB x γ (sIf ct a b) Qn Ql Qr Qx (fun s => (gt s).bind fun t => if t then gA s else gB s) := fun s e μ E => by
  refine Sim.bind.mpr ?_
  have h := h s e μ E
  revert h
  cases gt s with
  | ok t =>
    intro q
    have q : ct e μ = .ok (t, μ) := q
    have e1 : sIf ct a b e μ = if t then a e μ else b e μ := by unfold sIf eThen; rw [q]
    cases t with
    | true =>
      have := ha s e μ E
      have e1 : sIf ct a b e μ = a e μ := e1
      rw [← e1] at this
      exact this
    | false =>
      have := hb s e μ E
      have e1 : sIf ct a b e μ = b e μ := e1
      rw [← e1] at this
      exact this
  | ex c ds => exact fun q z => ⟨e, μ, by unfold sIf eThen; rw [q z], hx z s e μ E⟩
  | no => exact fun _ => trivial
theorem tb_ifR (h : TT x γ ct gt) (nn : NoNx a) (ha : TB x γ a Qn Ql Qr Qx gA) (hb : TB x γ (sSeq b r) Qn Ql Qr Qx gB) (hx : x = true → ∀ s e μ, Enc γ s e μ → Qx s e μ) : TB x γ (sSeq (sIf ct a b) r) Qn Ql Qr Qx (fun s => (gt s).bind fun t => if t then gA s else gB s) := by
  rw [seq_ifR nn]; exact tb_if h ha hb hx
theorem tb_ifR0 (h : TT x γ ct gt) (nn : NoNx a) (ha : TB x γ a Qn Ql Qr Qx gA) (hb : TB x γ r Qn Ql Qr Qx gB) (hx : x = true → ∀ s e μ, Enc γ s e μ → Qx s e μ) : TB x γ (sSeq (sIf ct a sNext) r) Qn Ql Qr Qx (fun s => (gt s).bind fun t => if t then gA s else gB s) := tb_ifR h nn ha hb hx
theorem tb_ifL (h : TT x γ ct gt) (nn : NoNx b) (ha : TB x γ (sSeq a r) Qn Ql Qr Qx gA) (hb : TB x γ b Qn Ql Qr Qx gB) (hx : x = true → ∀ s e μ, Enc γ s e μ → Qx s e μ) : TB x γ (sSeq (sIf ct a b) r) Qn Ql Qr Qx (fun s => (gt s).bind fun t => if t then gA s else gB s) := by
  rw [seq_ifL nn]; exact tb_if h ha hb hx
/-- two statements, the second's slots told by δ -/
theorem tb_seq {Y : Type} {δ : Sls (S × Y)} {g1 : S → R (Fl Y L ρ)} {g2 : S × Y → R (Fl N L ρ)} (h : TB x γ a (fun s y => Enc δ (s, y)) Ql Qr Qx g1) (k : TB x δ r (fun t => Qn t.1) (fun t => Ql t.1) Qr (fun t => Qx t.1) g2) :
    TB x γ (sSeq a r) Qn Ql Qr Qx (fun s => (g1 s).seq fun y => g2 (s, y)) := fun s e μ E => by
  have h := h s e μ E
  unfold R.seq
  refine Sim.bind.mpr ?_
  revert h
  cases g1 s with
  | ok o =>
    cases o with
    | nx y =>
      rintro ⟨e', μ', q, E'⟩
      have := k (s, y) e' μ' E'
      have e1 : sSeq a r e μ = r e' μ' := by unfold sSeq; rw [q]
      rw [← e1] at this
      exact this
    | bk l => exact fun ⟨e', μ', q, z⟩ => ⟨e', μ', by unfold sSeq; rw [q], z⟩
    | ct l => exact fun ⟨e', μ', q, z⟩ => ⟨e', μ', by unfold sSeq; rw [q], z⟩
    | rt v => exact fun ⟨e', μ', q, z⟩ => ⟨e', μ', by unfold sSeq; rw [q], z⟩
  | ex c ds => exact fun h z => by obtain ⟨e', μ', q, w⟩ := h z; exact ⟨e', μ', by unfold sSeq; rw [q], w⟩
  | no => exact fun _ => trivial
theorem tb_ifJ {Y : Type} {δ : Sls (S × Y)} {g1 g0 : S → R (Fl Y L ρ)} {g2 : S × Y → R (Fl N L ρ)} (h : TT x γ ct gt) (ha : TB x γ a (fun s y => Enc δ (s, y)) Ql Qr Qx g1) (hb : TB x γ b (fun s y => Enc δ (s, y)) Ql Qr Qx g0) (k : TB x δ r (fun t => Qn t.1) (fun t => Ql t.1) Qr (fun t => Qx t.1) g2)
    (hx : x = true → ∀ s e μ, Enc γ s e μ → Qx s e μ) : TB x γ (sSeq (sIf ct a b) r) Qn Ql Qr Qx (fun s => ((gt s).bind fun t => if t then g1 s else g0 s).seq fun y => g2 (s, y)) := tb_seq (tb_if h ha hb hx) k
theorem tb_assoc {a b c : SM} {g : S → R (Fl N L ρ)} (h : TB x γ (sSeq a (sSeq b c)) Qn Ql Qr Qx g) : TB x γ (sSeq (sSeq a b) c) Qn Ql Qr Qx g := by
  have : sSeq (sSeq a b) c = sSeq a (sSeq b c) := by
    funext e μ
    unfold sSeq
    cases a e μ with
    | none => rfl
    | some o => cases o <;> rfl
  rw [this]; exact h
theorem tb_retL (i : Nat) {o : Option Nat} {k : ρ → D} {f : S → ρ} (hi : nth γ i = .cel o (fun s => k (f s))) (hq : ∀ a n μ, μ[n]? = some (k a) → Qr a (.ref n) μ) : TB x γ (sRet (cV i)) Qn Ql Qr Qx (fun s => .ok (.rt (f s))) := fun s e μ E => by
  obtain ⟨n, a, b⟩ := E.cel hi
  refine ⟨.ref n, μ, ?_, hq _ _ _ b⟩
  unfold sRet eThen cV
  rw [a]
/-- a slot is stored: any statement that does so -/
def Sto (x : Bool) (γ : Sls S) (m : SM) (Qx : S → Ev → Mu → Prop) (δ : Sls (S × α)) (ga : S → R α) : Prop := ∀ s e μ, Enc γ s e μ → Sim x (ga s) (fun a => ∃ e' μ', m e μ = some (.nx e' μ') ∧ Enc δ (s, a) e' μ') (fun c ds => ∃ e' μ', m e μ = some (.xc c ds e' μ') ∧ Qx s e' μ')
theorem tb_sto {δ : Sls (S × α)} {g2 : S × α → R (Fl N L ρ)} (h : Sto x γ a Qx δ ga) (k : TB x δ r (fun t => Qn t.1) (fun t => Ql t.1) Qr (fun t => Qx t.1) g2) : TB x γ (sSeq a r) Qn Ql Qr Qx (fun s => (ga s).bind fun v => g2 (s, v)) := fun s e μ E => by
  refine Sim.bind.mpr ?_
  have h := h s e μ E
  revert h
  cases ga s with
  | ok v =>
    rintro ⟨e', μ', q, E'⟩
    have := k (s, v) e' μ' E'
    have e1 : sSeq a r e μ = r e' μ' := by unfold sSeq; rw [q]
    rw [← e1] at this
    exact this
  | ex c ds => exact fun h z => by obtain ⟨e', μ', q, w⟩ := h z; exact ⟨e', μ', by unfold sSeq; rw [q], w⟩
  | no => exact fun _ => trivial
/-- .. a new cell: its place is told -/
theorem tb_stoC {f : S × α → D} {i : Nat} {g2 : S × α → R (Fl N L ρ)} (h : ∀ s e μ, Enc γ s e μ → Sim x (ga s) (fun v => a e μ = some (.nx (e.set i (some (.ref μ.length))) (μ ++ [f (s, v)]))) (fun c ds => ∃ e' μ', a e μ = some (.xc c ds e' μ') ∧ Qx s e' μ'))
    (k : ∀ n, TB x (put (lifts Prod.fst γ) i (.cel (some n) f)) r (fun t => Qn t.1) (fun t => Ql t.1) Qr (fun t => Qx t.1) g2) : TB x γ (sSeq a r) Qn Ql Qr Qx (fun s => (ga s).bind fun v => g2 (s, v)) := fun s e μ E => by
  refine Sim.bind.mpr ?_
  have h := h s e μ E
  revert h
  cases ga s with
  | ok v =>
    intro q
    have q : a e μ = some (.nx (e.set i (some (.ref μ.length))) (μ ++ [f (s, v)])) := q
    have := k μ.length (s, v) _ _ ((Enc.lift (p := Prod.fst) (t := (s, v)) E).setC i f)
    have e1 : sSeq a r e μ = r (e.set i (some (.ref μ.length))) (μ ++ [f (s, v)]) := by unfold sSeq; rw [q]
    rw [← e1] at this
    exact this
  | ex c ds => exact fun h z => by obtain ⟨e', μ', q, w⟩ := h z; exact ⟨e', μ', by unfold sSeq; rw [q], w⟩
  | no => exact fun _ => trivial
theorem tb_set (i : Nat) {g2 : S × α → R (Fl N L ρ)} (h : TD x γ ma k ga) (kk : TB x (put (lifts Prod.fst γ) i (.val fun t => k t.2)) r (fun t => Qn t.1) (fun t => Ql t.1) Qr (fun t => Qx t.1) g2) (hx : x = true → ∀ s e μ, Enc γ s e μ → Qx s e μ) :
    TB x γ (sSeq (sSet i ma) r) Qn Ql Qr Qx (fun s => (ga s).bind fun v => g2 (s, v)) := tb_sto (δ := put (lifts Prod.fst γ) i (.val fun t => k t.2)) (fun s e μ E => by
  have h := h s e μ E
  revert h
  cases ga s with
  | ok v => exact fun q => ⟨_, _, by unfold sSet eThen; rw [q], (Enc.lift (p := Prod.fst) (t := (s, v)) E).setV i fun t => k t.2⟩
  | ex c ds => exact fun q z => ⟨e, μ, by unfold sSet eThen; rw [q z], hx z s e μ E⟩
  | no => exact fun _ => trivial) kk
theorem tb_setC (i : Nat) {g2 : S × α → R (Fl N L ρ)} (h : TC x γ ma k ga) (kk : ∀ n, TB x (put (lifts Prod.fst γ) i (.cel (some n) fun t => k t.2)) r (fun t => Qn t.1) (fun t => Ql t.1) Qr (fun t => Qx t.1) g2) (hx : x = true → ∀ s e μ, Enc γ s e μ → Qx s e μ) :
    TB x γ (sSeq (sSet i ma) r) Qn Ql Qr Qx (fun s => (ga s).bind fun v => g2 (s, v)) := tb_stoC (f := fun t => k t.2) (fun s e μ E => by
  have h := h s e μ E
  revert h
  cases ga s with
  | ok v =>
    intro q
    have q : ma e μ = .ok (.ref μ.length, μ ++ [k v]) := q
    show sSet i ma e μ = _
    unfold sSet eThen; rw [q]
  | ex c ds => exact fun q z => ⟨e, μ, by unfold sSet eThen; rw [q z], hx z s e μ E⟩
  | no => exact fun _ => trivial) kk
/-- a cell whose place is not told -/
theorem tb_open (i : Nat) {f : S → D} {g : S → R (Fl N L ρ)} (hi : nth γ i = .cel none f) (kk : ∀ n, TB x (put γ i (.cel (some n) f)) m Qn Ql Qr Qx g) : TB x γ m Qn Ql Qr Qx g := fun s e μ E => by
  obtain ⟨n, a, b⟩ := E.cel hi
  refine kk n s e μ ⟨by rw [put_len]; exact E.len, fun j => ?_, fun p q l cp cq ep eq => ?_⟩
  · rw [nth_put]
    split
    · rename_i h; rw [h.1]; exact ⟨a, b⟩
    · exact E.ok j
  · have key : ∀ c, (nth (put γ i (.cel (some n) f)) c).isC = true → (nth γ c).isC = true := fun c hc => by
      rw [nth_put] at hc
      split at hc
      · rename_i hh; rw [hh.1, hi]; rfl
      · exact hc
    exact E.dj p q l (key p cp) (key q cq) ep eq
/-! targets -/
def Tgt {X : Type} (T : Tg) (k : X → D) (ws : List (Nat × (X → D))) : Prop := ∀ v e, setT T (k v) e = some (ws.foldl (fun e w => e.set w.1 (some (w.2 v))) e)
def puts {X : Type} (γ : Sls S) : List (Nat × (X → D)) → Sls (S × X)
  | ws => ws.foldl (fun γ w => put γ w.1 (.val fun t => w.2 t.2)) (lifts Prod.fst γ)
theorem Enc.puts {X : Type} {s : S} {v : X} {e : Ev} {μ : Mu} (E : Enc γ s e μ) (ws : List (Nat × (X → D))) : Enc (puts γ ws) (s, v) (ws.foldl (fun e w => e.set w.1 (some (w.2 v))) e) μ := by
  have key : ∀ (ws : List (Nat × (X → D))) (δ : Sls (S × X)) e, Enc δ (s, v) e μ → Enc (ws.foldl (fun γ w => put γ w.1 (.val fun t => w.2 t.2)) δ) (s, v) (ws.foldl (fun e w => e.set w.1 (some (w.2 v))) e) μ := by
    intro ws
    induction ws with
    | nil => exact fun _ _ h => h
    | cons w r ih => exact fun δ e h => ih _ _ (h.setV w.1 fun t => w.2 t.2)
  exact key ws _ e (Enc.lift (p := Prod.fst) (t := (s, v)) E)
theorem tb_asg {T : Tg} {ws : List (Nat × (α → D))} {g2 : S × α → R (Fl N L ρ)} (h : TD x γ ma k ga) (ht : Tgt T k ws) (kk : TB x (puts γ ws) r (fun t => Qn t.1) (fun t => Ql t.1) Qr (fun t => Qx t.1) g2) (hx : x = true → ∀ s e μ, Enc γ s e μ → Qx s e μ) :
    TB x γ (sSeq (sAsg T ma) r) Qn Ql Qr Qx (fun s => (ga s).bind fun v => g2 (s, v)) := tb_sto (δ := puts γ ws) (fun s e μ E => by
  have h := h s e μ E
  revert h
  cases ga s with
  | ok v => exact fun q => ⟨_, _, by unfold sAsg eThen; rw [q]; show Option.map _ (setT T (k v) e) = _; rw [ht]; rfl, E.puts ws⟩
  | ex c ds => exact fun q z => ⟨e, μ, by unfold sAsg eThen; rw [q z], hx z s e μ E⟩
  | no => exact fun _ => trivial) kk
/-! for -/
def TI {X : Type} (x : Bool) (γ : Sls S) (mi : MI) (k : X → D) (g : S → R (List X)) : Prop := ∀ s e μ, Enc γ s e μ → Sim x (g s) (fun xs => mi e μ = .ok (.fix (xs.map k), μ)) (fun c ds => mi e μ = .ex c ds μ)
theorem for_run {X L' : Type} {T : Tg} {k : X → D} {ws : List (Nat × (X → D))} {δ : Sls (S × L')} {mb : SM} {gb : (S × L') × X → R (Fl L' L' ρ)} {src : Src} {s : S} (xs : List X) (ht : Tgt T k ws)
    (hb : TB x (puts δ ws) mb (fun t l => Enc δ (t.1.1, l)) (fun t l => Enc δ (t.1.1, l)) Qr (fun t => Qx t.1.1) gb) (hs : ∀ l e μ, Enc δ (s, l) e μ → items src μ = some (xs.map k)) :
    ∀ (rem : List X) (i f : Nat) (l : L') (e : Ev) (μ : Mu), rem = xs.drop i → rem.length < f → Enc δ (s, l) e μ → Sim x (forL (M := L) (fun l v => gb ((s, l), v)) rem l) (fun o => match o with
      | .nx l => ∃ e' μ', forGo T mb src f i e μ = some (.nx e' μ') ∧ Enc δ (s, l) e' μ'
      | .bk l => False
      | .ct l => False
      | .rt v => ∃ d μ', forGo T mb src f i e μ = some (.rt d μ') ∧ Qr v d μ') (fun c ds => ∃ e' μ', forGo T mb src f i e μ = some (.xc c ds e' μ') ∧ Qx s e' μ') := by
  intro rem
  induction rem with
  | nil =>
    intro i f l e μ hr hf E
    obtain ⟨f, rfl⟩ : ∃ g, f = g + 1 := ⟨f - 1, by omega⟩
    refine ⟨e, μ, ?_, E⟩
    unfold forGo
    rw [hs l e μ E]
    have : (xs.map k)[i]? = none := by
      rw [List.getElem?_eq_none_iff, List.length_map]
      exact List.drop_eq_nil_iff.mp hr.symm
    simp only [this]
  | cons v rem ih =>
    intro i f l e μ hr hf E
    obtain ⟨f, rfl⟩ : ∃ g, f = g + 1 := ⟨f - 1, by omega⟩
    have hv : (xs.map k)[i]? = some (k v) := by
      rw [List.getElem?_map]
      have : xs[i]? = some v := by
        have := congrArg (fun z => z[0]?) hr
        simpa [List.getElem?_drop] using this.symm
      rw [this]; rfl
    have hr' : rem = xs.drop (i + 1) := by
      have := congrArg List.tail hr
      simpa [List.tail_drop] using this
    unfold forL
    refine Sim.bind.mpr ?_
    have hbv := hb ((s, l), v) _ μ (E.puts (v := v) ws)
    have step : ∀ z, forGo T mb src (f + 1) i e μ = z ↔ (match mb (ws.foldl (fun e w => e.set w.1 (some (w.2 v))) e) μ with
          | some (.nx e2 μ2) => forGo T mb src f (i + 1) e2 μ2
          | some (.ct e2 μ2) => forGo T mb src f (i + 1) e2 μ2
          | some (.bk e2 μ2) => some (.nx e2 μ2)
          | r => r) = z := fun z => by
      rw [forGo]
      simp only [hs l e μ E, hv]
      rw [ht v e]
      try exact Iff.rfl
    simp only [step]
    revert hbv
    cases gb ((s, l), v) with
    | ok o =>
      cases o with
      | nx l' =>
        rintro ⟨e', μ', q, E'⟩
        simp only [q]
        exact ih (i + 1) f l' e' μ' hr' (by simp at hf; omega) E'
      | ct l' =>
        rintro ⟨e', μ', q, E'⟩
        simp only [q]
        exact ih (i + 1) f l' e' μ' hr' (by simp at hf; omega) E'
      | bk l' =>
        rintro ⟨e', μ', q, E'⟩
        simp only [q]
        exact ⟨e', μ', rfl, E'⟩
      | rt w =>
        rintro ⟨d, μ', q, z⟩
        simp only [q]
        exact ⟨d, μ', rfl, z⟩
    | ex c ds =>
      intro h z
      obtain ⟨e', μ', q, w⟩ := h z
      simp only [q]
      exact ⟨e', μ', rfl, w⟩
    | no => exact fun _ => trivial
theorem for_end {L' M : Type} {r : R (Fl L' L ρ)} {P : R (Fl L' L ρ)} (h : r = P) : r = P := h
section
variable {X L' : Type} {T : Tg} {kx : X → D} {ws : List (Nat × (X → D))} {δ : Sls (S × L')} {mx : MI} {bm : SM} {gi : S → R (List X)} {gb : (S × L') × X → R (Fl L' L' ρ)} {g2 : S × L' → R (Fl N L ρ)}
theorem tb_for (l0 : S → L') (hi : TI x γ mx kx gi) (ht : Tgt T kx ws) (w : Wk (fun s => (s, l0 s)) γ δ) (hb : TB x (puts δ ws) bm (fun t l => Enc δ (t.1.1, l)) (fun t l => Enc δ (t.1.1, l)) Qr (fun t => Qx t.1.1) gb)
    (kk : TB x δ r (fun t => Qn t.1) (fun t => Ql t.1) Qr (fun t => Qx t.1) g2) (hx : x = true → ∀ s e μ, Enc γ s e μ → Qx s e μ) :
    TB x γ (sSeq (sFor T mx bm) r) Qn Ql Qr Qx (fun s => (gi s).bind fun xs => (forR xs (l0 s) fun l v => gb ((s, l), v)).seq fun l => g2 (s, l)) := fun s e μ E => by
  refine Sim.bind.mpr ?_
  have h := hi s e μ E
  revert h
  cases gi s with
  | ok xs =>
    intro q
    have q : mx e μ = .ok (.fix (xs.map kx), μ) := q
    show Sim x ((forR xs (l0 s) fun l v => gb ((s, l), v)).seq fun l => g2 (s, l)) _ _
    unfold forR
    by_cases hl : xs.length ≤ lineN
    · rw [R.gd_t hl]
      have run := for_run (Qx := Qx) (L := L) (src := .fix (xs.map kx)) (s := s) xs ht hb (fun _ _ _ _ => rfl) xs 0 fuel (l0 s) e μ rfl (Nat.lt_of_le_of_lt hl (by have := fuel_ge; unfold lineN; omega)) (Enc.wk (p := fun s => (s, l0 s)) w E)
      have e0 : ∀ z, sFor T mx bm e μ = z ↔ forGo T bm (.fix (xs.map kx)) fuel 0 e μ = z := fun z => by unfold sFor eThen; rw [q]
      unfold R.seq
      refine Sim.bind.mpr ?_
      revert run
      cases forL (M := L) (fun l v => gb ((s, l), v)) xs (l0 s) with
      | ok o =>
        cases o with
        | nx l =>
          rintro ⟨e', μ', q2, E'⟩
          have := kk (s, l) e' μ' E'
          have e1 : sSeq (sFor T mx bm) r e μ = r e' μ' := by unfold sSeq; rw [(e0 _).mpr q2]
          rw [← e1] at this
          exact this
        | bk l => exact fun h => h.elim
        | ct l => exact fun h => h.elim
        | rt v => exact fun ⟨d, μ', q2, z⟩ => ⟨d, μ', by unfold sSeq; rw [(e0 _).mpr q2], z⟩
      | ex c ds => exact fun h z => by obtain ⟨e', μ', q2, w⟩ := h z; exact ⟨e', μ', by unfold sSeq; rw [(e0 _).mpr q2], w⟩
      | no => exact fun _ => trivial
    · unfold R.gd
      rw [if_neg hl]; trivial
  | ex c ds => exact fun q z => ⟨e, μ, by unfold sSeq sFor eThen; rw [q z], hx z s e μ E⟩
  | no => exact fun _ => trivial
/-- .. over a cell's list, that stays -/
theorem tb_forL (i n : Nat) (l0 : S → L') (xs : S → List X) (hi : nth γ i = .cel (some n) (fun s => .lst ((xs s).map kx))) (hd : nth δ i = .cel (some n) (fun t => .lst ((xs t.1).map kx))) (ht : Tgt T kx ws) (w : Wk (fun s => (s, l0 s)) γ δ)
    (hb : TB x (puts δ ws) bm (fun t l => Enc δ (t.1.1, l)) (fun t l => Enc δ (t.1.1, l)) Qr (fun t => Qx t.1.1) gb) (kk : TB x δ r (fun t => Qn t.1) (fun t => Ql t.1) Qr (fun t => Qx t.1) g2) :
    TB x γ (sSeq (sFor T (iVal (cV i)) bm) r) Qn Ql Qr Qx (fun s => (forR (xs s) (l0 s) fun l v => gb ((s, l), v)).seq fun l => g2 (s, l)) := fun s e μ E => by
  obtain ⟨a, b⟩ := E.celN hi
  have q : iVal (cV i) e μ = .ok (.live (.ref n), μ) := by
    unfold iVal cV
    simp only [a]
    show (match μ[n]? with | some (.lst _) => _ | _ => _) = _
    rw [b]
  show Sim x ((forR (xs s) (l0 s) fun l v => gb ((s, l), v)).seq fun l => g2 (s, l)) _ _
  unfold forR
  by_cases hl : (xs s).length ≤ lineN
  · rw [R.gd_t hl]
    have run := for_run (Qx := Qx) (L := L) (src := .live (.ref n)) (s := s) (xs s) ht hb (fun l e μ E' => by
      have := (E'.celN hd).2
      show lof (.ref n) μ = _
      unfold lof
      simp only [this]) (xs s) 0 fuel (l0 s) e μ rfl (Nat.lt_of_le_of_lt hl (by have := fuel_ge; unfold lineN; omega)) (Enc.wk (p := fun s => (s, l0 s)) w E)
    have e0 : ∀ z, sFor T (iVal (cV i)) bm e μ = z ↔ forGo T bm (.live (.ref n)) fuel 0 e μ = z := fun z => by unfold sFor eThen; rw [q]
    unfold R.seq
    refine Sim.bind.mpr ?_
    revert run
    cases forL (M := L) (fun l v => gb ((s, l), v)) (xs s) (l0 s) with
    | ok o =>
      cases o with
      | nx l =>
        rintro ⟨e', μ', q2, E'⟩
        have := kk (s, l) e' μ' E'
        have e1 : sSeq (sFor T (iVal (cV i)) bm) r e μ = r e' μ' := by unfold sSeq; rw [(e0 _).mpr q2]
        rw [← e1] at this
        exact this
      | bk l => exact fun h => h.elim
      | ct l => exact fun h => h.elim
      | rt v => exact fun ⟨d, μ', q2, z⟩ => ⟨d, μ', by unfold sSeq; rw [(e0 _).mpr q2], z⟩
    | ex c ds => exact fun h z => by obtain ⟨e', μ', q2, w⟩ := h z; exact ⟨e', μ', by unfold sSeq; rw [(e0 _).mpr q2], w⟩
    | no => exact fun _ => trivial
  · unfold R.gd
    rw [if_neg hl]; trivial
end
/-! while -/
theorem tb_while {L' : Type} {δ : Sls (S × L')} {bm : SM} {gc : S × L' → R Bool} {gb : S × L' → R (Fl L' L' ρ)} {g2 : S × L' → R (Fl N L ρ)} (l0 : S → L') (w : Wk (fun s => (s, l0 s)) γ δ) (hc : TT x δ ct gc)
    (hb : TB x δ bm (fun t l => Enc δ (t.1, l)) (fun t l => Enc δ (t.1, l)) Qr (fun t => Qx t.1) gb) (kk : TB x δ r (fun t => Qn t.1) (fun t => Ql t.1) Qr (fun t => Qx t.1) g2) (hx : x = true → ∀ t e μ, Enc δ t e μ → Qx t.1 e μ) :
    TB x γ (sSeq (sWhile ct bm) r) Qn Ql Qr Qx (fun s => (whR (l0 s) (fun l => gc (s, l)) fun l => gb (s, l)).seq fun l => g2 (s, l)) := fun s e μ E => by
  have run : ∀ (f : Nat) (l : L') (e : Ev) (μ : Mu), Enc δ (s, l) e μ → Sim x (whL (M := L) (fun l => gc (s, l)) (fun l => gb (s, l)) f l) (fun o => match o with
      | .nx l => ∃ e' μ', whGo ct bm f e μ = some (.nx e' μ') ∧ Enc δ (s, l) e' μ'
      | .bk l => False
      | .ct l => False
      | .rt v => ∃ d μ', whGo ct bm f e μ = some (.rt d μ') ∧ Qr v d μ') (fun c ds => ∃ e' μ', whGo ct bm f e μ = some (.xc c ds e' μ') ∧ Qx s e' μ') := by
    intro f
    induction f with
    | zero => intro l e μ E; trivial
    | succ f ih =>
      intro l e μ E
      unfold whL
      refine Sim.bind.mpr ?_
      have h := hc (s, l) e μ E
      revert h
      cases gc (s, l) with
      | ok t =>
        intro q
        have q : ct e μ = .ok (t, μ) := q
        cases t with
        | false => exact ⟨e, μ, by unfold whGo eThen; rw [q]; rfl, E⟩
        | true =>
          show Sim x ((gb (s, l)).bind _) _ _
          refine Sim.bind.mpr ?_
          have hbv := hb (s, l) e μ E
          have step : ∀ z, whGo ct bm (f + 1) e μ = z ↔ (match bm e μ with
              | some (.nx e2 μ2) => whGo ct bm f e2 μ2
              | some (.ct e2 μ2) => whGo ct bm f e2 μ2
              | some (.bk e2 μ2) => some (.nx e2 μ2)
              | r => r) = z := fun z => by rw [whGo]; unfold eThen; rw [q]; rfl
          simp only [step]
          revert hbv
          cases gb (s, l) with
          | ok o =>
            cases o with
            | nx l' =>
              rintro ⟨e', μ', q, E'⟩
              simp only [q]
              exact ih l' e' μ' E'
            | ct l' =>
              rintro ⟨e', μ', q, E'⟩
              simp only [q]
              exact ih l' e' μ' E'
            | bk l' =>
              rintro ⟨e', μ', q, E'⟩
              simp only [q]
              exact ⟨e', μ', rfl, E'⟩
            | rt w =>
              rintro ⟨d, μ', q, z⟩
              simp only [q]
              exact ⟨d, μ', rfl, z⟩
          | ex c ds =>
            intro h z
            obtain ⟨e', μ', q, w⟩ := h z
            simp only [q]
            exact ⟨e', μ', rfl, w⟩
          | no => exact fun _ => trivial
      | ex c ds => exact fun q z => ⟨e, μ, by unfold whGo eThen; rw [q z], hx z (s, l) e μ E⟩
      | no => exact fun _ => trivial
  have run := run fuel (l0 s) e μ (Enc.wk (p := fun s => (s, l0 s)) w E)
  have e0 : ∀ z, sWhile ct bm e μ = z ↔ whGo ct bm fuel e μ = z := fun z => Iff.rfl
  show Sim x ((whR (l0 s) (fun l => gc (s, l)) fun l => gb (s, l)).seq fun l => g2 (s, l)) _ _
  unfold R.seq whR
  refine Sim.bind.mpr ?_
  revert run
  cases whL (M := L) (fun l => gc (s, l)) (fun l => gb (s, l)) fuel (l0 s) with
  | ok o =>
    cases o with
    | nx l =>
      rintro ⟨e', μ', q2, E'⟩
      have := kk (s, l) e' μ' E'
      have e1 : sSeq (sWhile ct bm) r e μ = r e' μ' := by unfold sSeq; rw [(e0 _).mpr q2]
      rw [← e1] at this
      exact this
    | bk l => exact fun h => h.elim
    | ct l => exact fun h => h.elim
    | rt v => exact fun ⟨d, μ', q2, z⟩ => ⟨d, μ', by unfold sSeq; rw [(e0 _).mpr q2], z⟩
  | ex c ds => exact fun h z => by obtain ⟨e', μ', q2, w⟩ := h z; exact ⟨e', μ', by unfold sSeq; rw [(e0 _).mpr q2], w⟩
  | no => exact fun _ => trivial
end
end Lr

/-! Lr, part 34: kinds of values; defs and calls with types; cells that are changed; comprehensions. -/
namespace Lr
open PySem L2

def kNon : Unit → D := fun _ => .non
def kT0 : Unit → D := fun _ => .tup []
section
variable {α β δ ε ζ : Type}
def kT1 (k : α → D) : α → D := fun p => .tup [k p]
def kT2 (k : α → D) (l : β → D) : α × β → D := fun p => .tup [k p.1, l p.2]
def kT3 (k : α → D) (l : β → D) (m : δ → D) : α × β × δ → D := fun p => .tup [k p.1, l p.2.1, m p.2.2]
def kT4 (k : α → D) (l : β → D) (m : δ → D) (o : ε → D) : α × β × δ × ε → D := fun p => .tup [k p.1, l p.2.1, m p.2.2.1, o p.2.2.2]
def kT5 (k : α → D) (l : β → D) (m : δ → D) (o : ε → D) (q : ζ → D) : α × β × δ × ε × ζ → D := fun p => .tup [k p.1, l p.2.1, m p.2.2.1, o p.2.2.2.1, q p.2.2.2.2]
def kTp (k : α → D) : List α → D := fun xs => .tup (xs.map k)
def kLs (k : α → D) : List α → D := fun xs => .lst (xs.map k)
def kScr : List Int → D := fun xs => .scr (xs.map D.int)
def kOpt (k : α → D) : Option α → D
  | none => .non
  | some a => k a
def kDic (k : α → D) (l : β → D) : List (α × β) → D := fun kvs => .dic (kvs.map fun p => (k p.1, l p.2))
def kDit (k : α → D) (l : β → D) : List (α × β) → D := fun kvs => .dit (kvs.map fun p => (k p.1, l p.2))
def kObj (c : Nat) (k : α → List D) : α → D := fun a => .obj c (k a)
end
class LeD (d c : Dt) : Prop where
  le : d.n ≤ c.n
instance {c : Dt} : LeD .o (.s c) := ⟨by show 1 ≤ c.n + 1; omega⟩
instance {d c : Dt} [h : LeD d c] : LeD (.s d) (.s c) := ⟨Nat.succ_le_succ h.le⟩
instance {a b c : Dt} [h : LeD a c] [k : LeD b c] : LeD (.m a b) c := ⟨Nat.max_le.mpr ⟨h.le, k.le⟩⟩
abbrev cap : Dt := .s (.s (.s (.s (.s (.s (.s (.s (.s (.s .o)))))))))
abbrev Le11 (n : Dt) : Prop := LeD n cap
theorem le11 {n : Dt} [h : Le11 n] : n.n ≤ 11 := h.le
local macro_rules | `(tactic| walk_at "dt") => `(tactic| ((try simp only [Dt.n] at *); omega))
section
variable {α β δ ε ζ : Type} {k : α → D} {l : β → D} {m : δ → D} {o : ε → D} {q : ζ → D} {n n2 n3 n4 n5 : Dt}
theorem il_suc {P : Nat → Prop} {m : Nat} (h : ∀ j, P (j + 1)) (hm : 1 ≤ m) : P m := by
  obtain ⟨j, rfl⟩ : ∃ j, m = j + 1 := ⟨m - 1, by first | omega | (simp only [Dt.n] at *; omega)⟩
  exact h j
instance : Kn D.int .o := ⟨fun _ => rfl, fun a μ m h => il_suc (P := fun m => inl true μ m (D.int a) = some (D.int a)) (fun _ => rfl) h⟩
instance : Kn D.str .o := ⟨fun _ => rfl, fun a μ m h => il_suc (P := fun m => inl true μ m (D.str a) = some (D.str a)) (fun _ => rfl) h⟩
instance : Kn D.bl .o := ⟨fun _ => rfl, fun a μ m h => il_suc (P := fun m => inl true μ m (D.bl a) = some (D.bl a)) (fun _ => rfl) h⟩
instance : Kn kNon .o := ⟨fun _ => rfl, fun a μ m h => il_suc (P := fun m => inl true μ m .non = some .non) (fun _ => rfl) h⟩
instance : Kf D.int .o := ⟨fun a μ m h => il_suc (P := fun m => inl false μ m (D.int a) = some (D.int a)) (fun _ => rfl) h⟩
instance : Kf D.str .o := ⟨fun a μ m h => il_suc (P := fun m => inl false μ m (D.str a) = some (D.str a)) (fun _ => rfl) h⟩
instance : Kf D.bl .o := ⟨fun a μ m h => il_suc (P := fun m => inl false μ m (D.bl a) = some (D.bl a)) (fun _ => rfl) h⟩
instance : Kf kNon .o := ⟨fun a μ m h => il_suc (P := fun m => inl false μ m .non = some .non) (fun _ => rfl) h⟩
theorem mapO_map {f : D → Option D} {xs : List α} (h : ∀ a, f (k a) = some (k a)) : mapO f (xs.map k) = some (xs.map k) := mapO_id fun z hz => by
  obtain ⟨a, _, rfl⟩ := List.mem_map.mp hz
  exact h a
theorem il_tup {al : Bool} {μ : Mu} {ds : List D} {N m : Nat} (h : ∀ m, N ≤ m → mapO (inl al μ m) ds = some ds) (hm : N + 1 ≤ m) : inl al μ m (.tup ds) = some (.tup ds) := by
  obtain ⟨j, rfl⟩ : ∃ j, m = j + 1 := ⟨m - 1, by first | omega | (simp only [Dt.n] at *; omega)⟩
  show (mapO (inl al μ j) ds).map D.tup = _
  rw [h j (by walk_at "dt")]; rfl
theorem il_lst {μ : Mu} {ds : List D} {N m : Nat} (h : ∀ m, N ≤ m → mapO (inl true μ m) ds = some ds) (hm : N + 1 ≤ m) : inl true μ m (.lst ds) = some (.lst ds) := by
  obtain ⟨j, rfl⟩ : ∃ j, m = j + 1 := ⟨m - 1, by first | omega | (simp only [Dt.n] at *; omega)⟩
  show (mapO (inl true μ j) ds).map D.lst = _
  rw [h j (by walk_at "dt")]; rfl
theorem il_scr {μ : Mu} {ds : List D} {N m : Nat} (h : ∀ m, N ≤ m → mapO (inl true μ m) ds = some ds) (hm : N + 1 ≤ m) : inl true μ m (.scr ds) = some (.scr ds) := by
  obtain ⟨j, rfl⟩ : ∃ j, m = j + 1 := ⟨m - 1, by first | omega | (simp only [Dt.n] at *; omega)⟩
  show (mapO (inl true μ j) ds).map D.scr = _
  rw [h j (by walk_at "dt")]; rfl
theorem il_obj {μ : Mu} {ds : List D} {N m c : Nat} (h : ∀ m, N ≤ m → mapO (inl true μ m) ds = some ds) (hm : N + 1 ≤ m) : inl true μ m (.obj c ds) = some (.obj c ds) := by
  obtain ⟨j, rfl⟩ : ∃ j, m = j + 1 := ⟨m - 1, by first | omega | (simp only [Dt.n] at *; omega)⟩
  show (mapO (inl true μ j) ds).map (D.obj c) = _
  rw [h j (by walk_at "dt")]; rfl
/-- fields, arguments: no cells in them -/
class KnL {α : Type} (k : α → List D) (n : outParam Dt) : Prop where
  nr : ∀ a, nrs (k a) = true
  il : ∀ a μ m, n.n ≤ m → mapO (inl true μ m) (k a) = some (k a)
instance [Kn k n] : Kn (kTp k) (.s n) := ⟨fun a => by show nrs (a.map k) = true; exact nrs_map fun b _ => Kn.nr b, fun a μ m h => il_tup (fun m hm => mapO_map fun b => Kn.il b μ m hm) h⟩
instance [Kn k n] : Kn (kLs k) (.s n) := ⟨fun a => by show nrs (a.map k) = true; exact nrs_map fun b _ => Kn.nr b, fun a μ m h => il_lst (fun m hm => mapO_map fun b => Kn.il b μ m hm) h⟩
instance : Kn kScr (.s .o) := ⟨fun a => by show nrs (a.map D.int) = true; exact nrs_map fun b _ => rfl, fun a μ m h => il_scr (fun m hm => mapO_map fun b => Kn.il (k := D.int) b μ m hm) h⟩
instance [Kf k n] : Kf (kTp k) (.s n) := ⟨fun a μ m h => il_tup (fun m hm => mapO_map fun b => Kf.il b μ m hm) h⟩
instance : Kn kT0 .o := ⟨fun _ => rfl, fun a μ m h => il_tup (fun m hm => rfl) h⟩
instance : Kf kT0 .o := ⟨fun a μ m h => il_tup (fun m hm => rfl) h⟩
theorem mapO_cons {f : D → Option D} {d : D} {ds : List D} (h : f d = some d) (g : mapO f ds = some ds) : mapO f (d :: ds) = some (d :: ds) := by unfold mapO; rw [h, g]
theorem mapO_nil {f : D → Option D} : mapO f [] = some [] := rfl
theorem nrs2 {d : D} {ds : List D} (h : nr d = true) (g : nrs ds = true) : nrs (d :: ds) = true := by show (nr d && nrs ds) = true; rw [h, g]; rfl
instance [Kn k n] : Kn (kT1 k) (.s n) := ⟨fun a => nrs2 (Kn.nr a) rfl, fun a μ m h => il_tup (fun m hm => mapO_cons (Kn.il a μ m hm) mapO_nil) h⟩
instance [Kn k n] [Kn l n2] : Kn (kT2 k l) (.s (.m n n2)) := ⟨fun a => nrs2 (Kn.nr a.1) (nrs2 (Kn.nr a.2) rfl), fun a μ j h => il_tup (fun j hj => mapO_cons (Kn.il a.1 μ j (by walk_at "dt")) (mapO_cons (Kn.il a.2 μ j (by walk_at "dt")) mapO_nil)) h⟩
instance [Kn k n] [Kn l n2] [Kn m n3] : Kn (kT3 k l m) (.s (.m n (.m n2 n3))) := ⟨fun a => nrs2 (Kn.nr a.1) (nrs2 (Kn.nr a.2.1) (nrs2 (Kn.nr a.2.2) rfl)), fun a μ j h => il_tup (fun j hj => mapO_cons (Kn.il a.1 μ j (by walk_at "dt")) (mapO_cons (Kn.il a.2.1 μ j (by walk_at "dt")) (mapO_cons (Kn.il a.2.2 μ j (by walk_at "dt")) mapO_nil))) h⟩
instance [Kn k n] [Kn l n2] [Kn m n3] [Kn o n4] : Kn (kT4 k l m o) (.s (.m n (.m n2 (.m n3 n4)))) := ⟨fun a => nrs2 (Kn.nr a.1) (nrs2 (Kn.nr a.2.1) (nrs2 (Kn.nr a.2.2.1) (nrs2 (Kn.nr a.2.2.2) rfl))), fun a μ j h => il_tup (fun j hj => mapO_cons (Kn.il a.1 μ j (by walk_at "dt")) (mapO_cons (Kn.il a.2.1 μ j (by walk_at "dt")) (mapO_cons (Kn.il a.2.2.1 μ j (by walk_at "dt")) (mapO_cons (Kn.il a.2.2.2 μ j (by walk_at "dt")) mapO_nil)))) h⟩
instance [Kn k n] [Kn l n2] [Kn m n3] [Kn o n4] [Kn q n5] : Kn (kT5 k l m o q) (.s (.m n (.m n2 (.m n3 (.m n4 n5))))) := ⟨fun a => nrs2 (Kn.nr a.1) (nrs2 (Kn.nr a.2.1) (nrs2 (Kn.nr a.2.2.1) (nrs2 (Kn.nr a.2.2.2.1) (nrs2 (Kn.nr a.2.2.2.2) rfl)))), fun a μ j h => il_tup (fun j hj => mapO_cons (Kn.il a.1 μ j (by walk_at "dt")) (mapO_cons (Kn.il a.2.1 μ j (by walk_at "dt")) (mapO_cons (Kn.il a.2.2.1 μ j (by walk_at "dt")) (mapO_cons (Kn.il a.2.2.2.1 μ j (by walk_at "dt")) (mapO_cons (Kn.il a.2.2.2.2 μ j (by walk_at "dt")) mapO_nil))))) h⟩
instance [Kf k n] : Kf (kT1 k) (.s n) := ⟨fun a μ m h => il_tup (fun m hm => mapO_cons (Kf.il a μ m hm) mapO_nil) h⟩
instance [Kf k n] [Kf l n2] : Kf (kT2 k l) (.s (.m n n2)) := ⟨fun a μ j h => il_tup (fun j hj => mapO_cons (Kf.il a.1 μ j (by walk_at "dt")) (mapO_cons (Kf.il a.2 μ j (by walk_at "dt")) mapO_nil)) h⟩
instance [Kf k n] [Kf l n2] [Kf m n3] : Kf (kT3 k l m) (.s (.m n (.m n2 n3))) := ⟨fun a μ j h => il_tup (fun j hj => mapO_cons (Kf.il a.1 μ j (by walk_at "dt")) (mapO_cons (Kf.il a.2.1 μ j (by walk_at "dt")) (mapO_cons (Kf.il a.2.2 μ j (by walk_at "dt")) mapO_nil))) h⟩
instance [Kf k n] [Kf l n2] [Kf m n3] [Kf o n4] : Kf (kT4 k l m o) (.s (.m n (.m n2 (.m n3 n4)))) := ⟨fun a μ j h => il_tup (fun j hj => mapO_cons (Kf.il a.1 μ j (by walk_at "dt")) (mapO_cons (Kf.il a.2.1 μ j (by walk_at "dt")) (mapO_cons (Kf.il a.2.2.1 μ j (by walk_at "dt")) (mapO_cons (Kf.il a.2.2.2 μ j (by walk_at "dt")) mapO_nil)))) h⟩
instance [Kf k n] [Kf l n2] [Kf m n3] [Kf o n4] [Kf q n5] : Kf (kT5 k l m o q) (.s (.m n (.m n2 (.m n3 (.m n4 n5))))) := ⟨fun a μ j h => il_tup (fun j hj => mapO_cons (Kf.il a.1 μ j (by walk_at "dt")) (mapO_cons (Kf.il a.2.1 μ j (by walk_at "dt")) (mapO_cons (Kf.il a.2.2.1 μ j (by walk_at "dt")) (mapO_cons (Kf.il a.2.2.2.1 μ j (by walk_at "dt")) (mapO_cons (Kf.il a.2.2.2.2 μ j (by walk_at "dt")) mapO_nil))))) h⟩
instance [Kn k n] : Kn (kOpt k) (.s n) := ⟨fun a => by cases a with | none => rfl | some a => exact Kn.nr a, fun a μ m h => by
  cases a with
  | none => exact il_suc (P := fun m => inl true μ m .non = some .non) (fun _ => rfl) (by walk_at "dt")
  | some a => exact Kn.il a μ m (by walk_at "dt")⟩
instance [Kf k n] : Kf (kOpt k) (.s n) := ⟨fun a μ m h => by
  cases a with
  | none => exact il_suc (P := fun m => inl false μ m .non = some .non) (fun _ => rfl) (by walk_at "dt")
  | some a => exact Kf.il a μ m (by walk_at "dt")⟩
instance {k : α → List D} {c : Nat} [KnL k n] : Kn (kObj c k) (.s n) := ⟨fun a => KnL.nr (k := k) a, fun a μ m h => il_obj (fun m hm => KnL.il a μ m hm) h⟩
theorem nrk_map {k : α → D} {l : β → D} [Kn l n2] : ∀ xs : List (α × β), nrk (xs.map fun p => (k p.1, l p.2)) = true
  | [] => rfl
  | p :: r => by show (nr _ && nrk _) = true; rw [Kn.nr, nrk_map r]; rfl
theorem il_dic {μ : Mu} {l : β → D} {k : α → D} [Kn l n2] {j : Nat} (hj : n2.n ≤ j) : ∀ xs : List (α × β), mapO (fun p : D × D => (inl true μ j p.2).map fun d => (p.1, d)) (xs.map fun p => (k p.1, l p.2)) = some (xs.map fun p => (k p.1, l p.2)) := fun xs => mapO_id fun z hz => by
  obtain ⟨p, _, rfl⟩ := List.mem_map.mp hz
  dsimp only
  rw [Kn.il p.2 μ j hj]; rfl
instance [Kn l n2] : Kn (kDic k l) (.s n2) := ⟨fun a => nrk_map a, fun a μ j h => by
  obtain ⟨j, rfl⟩ : ∃ i, j = i + 1 := ⟨j - 1, by simp only [Dt.n] at *; omega⟩
  show (mapO _ _).map D.dic = _
  rw [il_dic (by walk_at "dt")]; rfl⟩
instance [Kn l n2] : Kn (kDit k l) (.s n2) := ⟨fun a => nrk_map a, fun a μ j h => by
  obtain ⟨j, rfl⟩ : ∃ i, j = i + 1 := ⟨j - 1, by simp only [Dt.n] at *; omega⟩
  show (mapO _ _).map D.dit = _
  rw [il_dic (by walk_at "dt")]; rfl⟩
theorem vw_kn {n : Dt} [Kn k n] (a : α) (μ : Mu) : vw μ (k a) = some (k a) := vw_nr (Kn.nr a)
theorem kv_nc {n : Dt} [Kn k n] (h : ∀ a, isCl (k a) = false) : Kv k := ⟨fun a μ d v => by rw [v.eq (h a)]; exact vw_kn a μ⟩
instance : Kv D.int := kv_nc fun _ => rfl
instance : Kv D.str := kv_nc fun _ => rfl
instance : Kv D.bl := kv_nc fun _ => rfl
instance : Kv kNon := kv_nc fun _ => rfl
instance : Kv kScr := kv_nc fun _ => rfl
instance : Kv kT0 := kv_nc fun _ => rfl
instance [Kn k n] : Kv (kTp k) := kv_nc fun _ => rfl
instance [Kn k n] : Kv (kT1 k) := kv_nc fun _ => rfl
instance [Kn k n] [Kn l n2] : Kv (kT2 k l) := kv_nc fun _ => rfl
instance [Kn k n] [Kn l n2] [Kn m n3] : Kv (kT3 k l m) := kv_nc fun _ => rfl
instance [Kn k n] [Kn l n2] [Kn m n3] [Kn o n4] : Kv (kT4 k l m o) := kv_nc fun _ => rfl
instance [Kn k n] [Kn l n2] [Kn m n3] [Kn o n4] [Kn q n5] : Kv (kT5 k l m o q) := kv_nc fun _ => rfl
theorem vw_ref (j : Nat) (μ : Mu) : vw μ (.ref j) = inl true μ 12 (.ref j) := if_neg (by simp [nr])
theorem vw_cl {μ : Mu} {j : Nat} {xs : List α} [Kn k n] [Le11 n] (h : μ[j]? = some (kLs k xs)) : vw μ (.ref j) = some (kLs k xs) := by
  rw [vw_ref]
  unfold inl
  rw [h]
  show (mapO (inl true μ 11) (xs.map k)).map D.lst = _
  rw [mapO_map fun b => Kn.il b μ 11 le11]; rfl
theorem vf_cl {μ : Mu} {j : Nat} {xs : List α} [Kf k n] [Le11 n] (h : μ[j]? = some (kLs k xs)) : vf μ (.ref j) = some (kLs k xs) := by
  unfold vf
  rw [if_neg (by simp [scal])]
  unfold inl
  rw [h]
  show (mapO (inl false μ 11) (xs.map k)).map D.lst = _
  rw [mapO_map fun b => Kf.il b μ 11 le11]; rfl
instance [Kn k n] [Le11 n] : Kv (kLs k) := ⟨fun a μ d v => by
  rcases v with rfl | ⟨j, rfl, h, _⟩
  · exact vw_kn (k := kLs k) a μ
  · exact vw_cl h⟩
instance [Kn l n2] [Le11 n2] : Kv (kDic k l) := ⟨fun a μ d v => by
  rcases v with rfl | ⟨j, rfl, h, _⟩
  · exact vw_kn (k := kDic k l) a μ
  · rw [vw_ref]
    unfold inl
    rw [h]
    show (mapO _ _).map D.dic = _
    rw [il_dic le11]; rfl⟩
instance [Kn l n2] [Le11 n2] : Kv (kDit k l) := ⟨fun a μ d v => by
  rcases v with rfl | ⟨j, rfl, h, _⟩
  · exact vw_kn (k := kDit k l) a μ
  · rw [vw_ref]
    unfold inl
    rw [h]
    show (mapO _ _).map D.dit = _
    rw [il_dic le11]; rfl⟩
instance {k : α → List D} {c : Nat} [KnL k n] [Le11 n] : Kv (kObj c k) := ⟨fun a μ d v => by
  rcases v with rfl | ⟨j, rfl, h, _⟩
  · exact vw_kn (k := kObj c k) a μ
  · rw [vw_ref]
    unfold inl
    rw [h]
    show (mapO (inl true μ 11) (k a)).map (D.obj c) = _
    rw [KnL.il a μ 11 le11]; rfl⟩
end

/-! ### defs -/
section
variable {A ρ S N L : Type} {x : Bool}
/-- F stands for f: q tells that its answer has no frozen lists -/
def TF (q x : Bool) (ka : A → List D) (kr : ρ → D) (F : GF) (f : A → R ρ) : Prop := ∀ a, Sim x (f a) (fun r => ∃ d μ', F (ka a) [] = .ok (d, μ') ∧ vw μ' d = some (kr r) ∧ (q = true → vf μ' d = some (kr r))) (fun c ds => ∃ μ', F (ka a) [] = .ex c ds μ')
def Qret (q : Bool) (kr : ρ → D) (r : ρ) (d : D) (μ : Mu) : Prop := vw μ d = some (kr r) ∧ (q = true → vf μ d = some (kr r))
theorem qr_d {k : ρ → D} {n : Dt} [Kn k n] : ∀ (a : ρ) (μ : Mu), Qret false k a (k a) μ := fun a μ => ⟨vw_kn a μ, fun h => by cases h⟩
theorem vf_kf {k : ρ → D} {n : Dt} [Kf k n] [Le11 n] (a : ρ) (μ : Mu) : vf μ (k a) = some (k a) := by
  unfold vf
  split
  · rfl
  · exact Kf.il a μ 12 (Nat.le_succ_of_le le11)
theorem qr_f {q : Bool} {k : ρ → D} {n n2 : Dt} [Kn k n] [Kf k n2] [Le11 n2] : ∀ (a : ρ) (μ : Mu), Qret q k a (k a) μ := fun a μ => ⟨vw_kn a μ, fun _ => vf_kf a μ⟩
theorem qr_v {k : ρ → D} [Kv k] : ∀ (a : ρ) (d : D) (μ : Mu), Vw μ d (k a) → Qret false k a d μ := fun a d μ h => ⟨Kv.vw a μ d h, fun h => by cases h⟩
theorem qr_l {q : Bool} {α : Type} {k : α → D} {n n2 : Dt} [Kn k n] [Le11 n] [Kf k n2] [Le11 n2] : ∀ (a : List α) (j : Nat) (μ : Mu), μ[j]? = some (kLs k a) → Qret q (kLs k) a (.ref j) μ := fun a j μ h => ⟨vw_cl h, fun _ => vf_cl h⟩
theorem qr_n {q : Bool} : ∀ μ, Qret q kNon () .non μ := fun μ => ⟨rfl, fun _ => rfl⟩
def uns {A : Type} : Nat → Sls A
  | 0 => []
  | r + 1 => .un :: uns r
def starts {A : Type} : List (A → D) → Nat → Sls A
  | [], r => uns r
  | f :: fs, r => .val f :: starts fs r
theorem uns_len {r : Nat} : (uns (A := A) r).length = r := by
  induction r with
  | zero => rfl
  | succ r ih => simp only [uns, List.length_cons, ih]
theorem uns_at {r : Nat} : ∀ i, nth (uns (A := A) r) i = .un := by
  induction r with
  | zero => intro i; rfl
  | succ r ih => intro i; cases i with
    | zero => rfl
    | succ i => exact ih i
theorem starts_len {fs : List (A → D)} {r : Nat} : (starts fs r).length = fs.length + r := by
  induction fs with
  | nil => simp only [starts, uns_len, List.length_nil]; omega
  | cons f fs ih => simp only [starts, List.length_cons, ih]; omega
theorem starts_nc {fs : List (A → D)} {r : Nat} : ∀ i, (nth (starts fs r) i).isC = false := by
  induction fs with
  | nil => intro i; show (nth (uns r) i).isC = false; rw [uns_at]; rfl
  | cons f fs ih => intro i; cases i with
    | zero => rfl
    | succ i => exact ih i
theorem enc_start (fs : List (A → D)) (r : Nat) (a : A) (μ : Mu) : Enc (starts fs r) a ((fs.map fun f => some (f a)) ++ List.replicate r none) μ := by
  refine ⟨by rw [starts_len]; simp, ?_, fun i j n ci => by rw [starts_nc] at ci; cases ci⟩
  induction fs with
  | nil => intro i; show SlOk μ a _ (nth (uns r) i); rw [uns_at]; trivial
  | cons f fs ih => intro i; cases i with
    | zero => exact rfl
    | succ i => exact ih i
variable {q : Bool} {ka : A → List D} {kr : ρ → D} {n r : Nat} {m : SM} {fs : List (A → D)} {Qn : A → N → Ev → Mu → Prop} {Ql : A → L → Ev → Mu → Prop} {Qx : A → Ev → Mu → Prop}
theorem tf_mk {g : A → R (Fl N L ρ)} (h : TB x (starts fs r) m Qn Ql (Qret q kr) Qx g) (hk : ∀ a, (ka a).map some ++ List.replicate (n - (ka a).length) none = (fs.map fun f => some (f a)) ++ List.replicate r none) : TF q x ka kr (bodyF n m) (fun a => (g a).fin) := fun a => by
  refine Sim.bind.mpr ?_
  have h := h a _ [] (enc_start fs r a [])
  revert h
  cases g a with
  | ok o =>
    cases o with
    | rt v =>
      rintro ⟨d, μ', e1, e2⟩
      refine ⟨d, μ', ?_, e2.1, e2.2⟩
      unfold bodyF
      rw [hk, e1]
    | nx => exact fun _ => trivial
    | bk => exact fun _ => trivial
    | ct => exact fun _ => trivial
  | ex c ds =>
    intro h z
    obtain ⟨e', μ', e1, _⟩ := h z
    exact ⟨μ', by unfold bodyF; rw [hk, e1]⟩
  | no => exact fun _ => trivial
theorem tf_mkU {g : A → R (Fl N L Unit)} (h : TB x (starts fs r) m Qn Ql (Qret q kNon) Qx g) (hk : ∀ a, (ka a).map some ++ List.replicate (n - (ka a).length) none = (fs.map fun f => some (f a)) ++ List.replicate r none) : TF q x ka kNon (bodyF n m) (fun a => (g a).finU) := fun a => by
  refine Sim.bind.mpr ?_
  have h := h a _ [] (enc_start fs r a [])
  revert h
  cases g a with
  | ok o =>
    cases o with
    | rt v =>
      rintro ⟨d, μ', e1, e2⟩
      refine ⟨d, μ', ?_, e2.1, e2.2⟩
      unfold bodyF
      rw [hk, e1]
    | nx =>
      rintro ⟨e', μ', e1, _⟩
      refine ⟨.non, μ', ?_, rfl, fun _ => rfl⟩
      unfold bodyF
      rw [hk, e1]
    | bk => exact fun _ => trivial
    | ct => exact fun _ => trivial
  | ex c ds =>
    intro h z
    obtain ⟨e', μ', e1, _⟩ := h z
    exact ⟨μ', by unfold bodyF; rw [hk, e1]⟩
  | no => exact fun _ => trivial
theorem tf_mk3 {g : A → R (Fl N L ρ)} {f : A → R ρ} (h : TB x (starts fs r) m Qn Ql (Qret q kr) Qx g) (hk : ∀ a, (ka a).map some ++ List.replicate (n - (ka a).length) none = (fs.map fun f => some (f a)) ++ List.replicate r none) (hf : ∀ a, (g a).fin = f a) : TF q x ka kr (bodyF n m) f := by
  have : f = fun a => (g a).fin := funext fun a => (hf a).symm
  rw [this]; exact tf_mk h hk
theorem tf_mkU3 {g : A → R (Fl N L Unit)} {f : A → R Unit} (h : TB x (starts fs r) m Qn Ql (Qret q kNon) Qx g) (hk : ∀ a, (ka a).map some ++ List.replicate (n - (ka a).length) none = (fs.map fun f => some (f a)) ++ List.replicate r none) (hf : ∀ a, (g a).finU = f a) : TF q x ka kNon (bodyF n m) f := by
  have : f = fun a => (g a).finU := funext fun a => (hf a).symm
  rw [this]; exact tf_mkU h hk
theorem tf_mk4 {f : A → R ρ} (hk : ∀ a, (ka a).map some ++ List.replicate (n - (ka a).length) none = (fs.map fun f => some (f a)) ++ List.replicate r none) (h : ∃ g : A → R (Fl N L ρ), TB x (starts fs r) m Qn Ql (Qret q kr) Qx g ∧ ∀ a, (g a).fin = f a) : TF q x ka kr (bodyF n m) f := let ⟨_, h1, h2⟩ := h; tf_mk3 h1 hk h2
theorem tf_mkU4 {f : A → R Unit} (hk : ∀ a, (ka a).map some ++ List.replicate (n - (ka a).length) none = (fs.map fun f => some (f a)) ++ List.replicate r none) (h : ∃ g : A → R (Fl N L Unit), TB x (starts fs r) m Qn Ql (Qret q kNon) Qx g ∧ ∀ a, (g a).finU = f a) : TF q x ka kNon (bodyF n m) f := let ⟨_, h1, h2⟩ := h; tf_mkU3 h1 hk h2
/-- what a call of values tells -/
theorem TF.pure {F : GF} {f : A → R ρ} (h : TF q x ka kr F f) {a : A} {v : ρ} {μ : Mu} (hn : nrs (ka a) = true) (hf : f a = .ok v) : pureC F (ka a) μ = .ok (kr v, μ) := by
  have h := h a
  rw [hf] at h
  obtain ⟨d, μ', e1, e2, _⟩ := h
  unfold pureC retW
  rw [if_pos hn, e1]
  simp only [e2]
theorem TF.view {F : GF} {f : A → R ρ} (h : TF true x ka kr F f) {a : A} {v : ρ} {μ : Mu} {ds : List D} (hn : vws μ ds = some (ka a)) (hf : f a = .ok v) : pureC F ds μ = .ok (kr v, μ) := by
  have h := h a
  rw [hf] at h
  obtain ⟨d, μ', e1, e2, e3⟩ := h
  unfold pureC retW
  split
  · rename_i hz
    rw [vws_nrs hz] at hn
    cases hn
    rw [e1]
    simp only [e2]
  · rw [hn]
    simp only [e1, e3 rfl]
theorem TF.weak {F : GF} {f : A → R ρ} (h : TF q x ka kr F f) : TF false x ka kr F f := fun a => (h a).imp (fun r ⟨d, μ', e1, e2, _⟩ => ⟨d, μ', e1, e2, fun z => by cases z⟩) fun _ _ z => z
theorem TF.at {F : GF} {f : A → R ρ} (h : TF q x ka kr F f) {a : A} {v : ρ} (hf : f a = .ok v) : ∃ d μ', F (ka a) [] = .ok (d, μ') ∧ vw μ' d = some (kr v) := by
  have h := h a
  rw [hf] at h
  obtain ⟨d, μ', e1, e2, _⟩ := h
  exact ⟨d, μ', e1, e2⟩
end
section
variable {S α β δ A ρ O : Type} {x : Bool} {γ : Sls S} {ms : MA} {ka : A → List D} {kr : ρ → D} {G : (β : Type) → S → (A → R β) → R β} {F : GF} {f : A → R ρ} {q : Bool} {mo : M} {ko : O → D} {go : S → R O}
/-- a call by values that raises nothing -/
theorem td_call (ha : TAD false γ ms ka G) (hf : TF q false ka kr F f) : TD false γ (cF (pureC F) ms) kr (fun s => G ρ s f) := fun s e μ E => by
  dsimp only
  rcases ha s e μ E with ⟨a, e1, e2, hc⟩ | ⟨y, fs, e1, hc⟩ | hc
  · rw [hc]
    have : cF (pureC F) ms e μ = pureC F (ka a) μ := by unfold cF; rw [e1]; rfl
    rw [this]
    cases hv : f a with
    | ok v => exact hf.pure e2 hv
    | ex c ds => exact fun z => by cases z
    | no => trivial
  · rw [hc]; exact fun z => by cases z
  · rw [hc]; trivial
theorem td_callN (ha : TAD x γ ms ka G) (hf : TF q false ka kr F f) : TD x γ (cF (pureC F) ms) kr (fun s => G ρ s fun a => (f a).ne) := fun s e μ E => by
  dsimp only
  rcases ha s e μ E with ⟨a, e1, e2, hc⟩ | ⟨y, fs, e1, hc⟩ | hc
  · rw [hc]
    have : cF (pureC F) ms e μ = pureC F (ka a) μ := by unfold cF; rw [e1]; rfl
    rw [this]
    cases hv : f a with
    | ok v => exact hf.pure e2 hv
    | ex c ds => trivial
    | no => trivial
  · rw [hc]; exact fun z => by unfold cF; rw [e1 z]; rfl
  · rw [hc]; trivial
theorem td_callV (ha : TA false γ ms ka G) (hf : TF true false ka kr F f) : TD false γ (cF (pureC F) ms) kr (fun s => G ρ s f) := fun s e μ E => by
  dsimp only
  rcases ha s e μ E with ⟨a, ds, e1, _, e2, hc⟩ | ⟨y, fs, e1, hc⟩ | hc
  · rw [hc]
    have : cF (pureC F) ms e μ = pureC F ds μ := by unfold cF; rw [e1]; rfl
    rw [this]
    cases hv : f a with
    | ok v => exact hf.view e2 hv
    | ex c ds => exact fun z => by cases z
    | no => trivial
  · rw [hc]; exact fun z => by cases z
  · rw [hc]; trivial
theorem td_callVN (ha : TA x γ ms ka G) (hf : TF true false ka kr F f) : TD x γ (cF (pureC F) ms) kr (fun s => G ρ s fun a => (f a).ne) := fun s e μ E => by
  dsimp only
  rcases ha s e μ E with ⟨a, ds, e1, _, e2, hc⟩ | ⟨y, fs, e1, hc⟩ | hc
  · rw [hc]
    have : cF (pureC F) ms e μ = pureC F ds μ := by unfold cF; rw [e1]; rfl
    rw [this]
    cases hv : f a with
    | ok v => exact hf.view e2 hv
    | ex c ds => trivial
    | no => trivial
  · rw [hc]; exact fun z => by unfold cF; rw [e1 z]; rfl
  · rw [hc]; trivial
/-- o.m(..), o a frozen instance -/
theorem td_meth {c : Nat} {n : Dt} {ko : O → List D} {f : O × A → R ρ} [KnL ko n] (ho : TD false γ mo (kObj c ko) go) (ha : TAD false γ ms ka G) (hf : TF q false (fun a : O × A => kObj c ko a.1 :: ka a.2) kr F f) : TD false γ (cMt c (pureC F) mo ms) kr (fun s => (go s).bind fun o => G ρ s fun a => f (o, a)) := fun s e μ E => by
  refine Sim.bind.mpr ((ho s e μ E).imp (fun o q1 => ?_) fun y ds q => by unfold cMt; rw [q]; rfl)
  have e0 : cMt c (pureC F) mo ms e μ = (ms e μ).bind fun y => pureC F (kObj c ko o :: y.1) y.2 := by
    unfold cMt; rw [q1]
    exact if_pos rfl
  rw [e0]
  rcases ha s e μ E with ⟨a, e1, e2, hc⟩ | ⟨y, fs, e1, hc⟩ | hc
  · rw [hc, e1]
    show Sim false _ (fun c_1 => pureC F (kObj c ko o :: ka a) μ = _) _
    cases hv : f (o, a) with
    | ok v => exact hf.pure (a := (o, a)) (nrs2 (Kn.nr (k := kObj c ko) o) e2) hv
    | ex c ds => exact fun z => by cases z
    | no => trivial
  · rw [hc]; exact fun z => by cases z
  · rw [hc]; trivial
theorem td_methN {c : Nat} {n : Dt} {ko : O → List D} {f : O × A → R ρ} [KnL ko n] (ho : TD x γ mo (kObj c ko) go) (ha : TAD x γ ms ka G) (hf : TF q false (fun a : O × A => kObj c ko a.1 :: ka a.2) kr F f) : TD x γ (cMt c (pureC F) mo ms) kr (fun s => (go s).bind fun o => G ρ s fun a => (f (o, a)).ne) := fun s e μ E => by
  refine Sim.bind.mpr ((ho s e μ E).imp (fun o q1 => ?_) fun y ds q => by unfold cMt; rw [q]; rfl)
  have e0 : cMt c (pureC F) mo ms e μ = (ms e μ).bind fun y => pureC F (kObj c ko o :: y.1) y.2 := by
    unfold cMt; rw [q1]
    exact if_pos rfl
  rw [e0]
  rcases ha s e μ E with ⟨a, e1, e2, hc⟩ | ⟨y, fs, e1, hc⟩ | hc
  · rw [hc, e1]
    show Sim x _ (fun c_1 => pureC F (kObj c ko o :: ka a) μ = _) _
    cases hv : f (o, a) with
    | ok v => exact hf.pure (a := (o, a)) (nrs2 (Kn.nr (k := kObj c ko) o) e2) hv
    | ex c ds => trivial
    | no => trivial
  · rw [hc]; exact fun z => by rw [e1 z]; rfl
  · rw [hc]; trivial
theorem td_methV {c : Nat} {n : Dt} {ko : O → List D} {f : O × A → R ρ} [KnL ko n] (ho : TD false γ mo (kObj c ko) go) (ha : TA false γ ms ka G) (hf : TF true false (fun a : O × A => kObj c ko a.1 :: ka a.2) kr F f) : TD false γ (cMt c (pureC F) mo ms) kr (fun s => (go s).bind fun o => G ρ s fun a => f (o, a)) := fun s e μ E => by
  refine Sim.bind.mpr ((ho s e μ E).imp (fun o q1 => ?_) fun y ds q => by unfold cMt; rw [q]; rfl)
  have e0 : cMt c (pureC F) mo ms e μ = (ms e μ).bind fun y => pureC F (kObj c ko o :: y.1) y.2 := by
    unfold cMt; rw [q1]
    exact if_pos rfl
  rw [e0]
  rcases ha s e μ E with ⟨a, ds, e1, _, e2, hc⟩ | ⟨y, fs, e1, hc⟩ | hc
  · rw [hc, e1]
    show Sim false _ (fun c_1 => pureC F (kObj c ko o :: ds) μ = _) _
    cases hv : f (o, a) with
    | ok v => exact hf.view (a := (o, a)) (by unfold vws; rw [vw_kn (k := kObj c ko), e2]) hv
    | ex c ds => exact fun z => by cases z
    | no => trivial
  · rw [hc]; exact fun z => by cases z
  · rw [hc]; trivial
/-- a new instance, frozen -/
def TFI (c : Nat) (ka : A → List D) (ko : O → List D) (F : GF) (f : A → R O) : Prop := ∀ a, Sim false (f a) (fun r => ∃ μ', F (.ref 0 :: ka a) [.obj c []] = .ok (.non, μ') ∧ inl true μ' 12 (.ref 0) = some (.obj c (ko r))) (fun _ _ => True)
theorem td_make {c : Nat} {ko : O → List D} {f : A → R O} (ha : TAD false γ ms ka G) (hf : TFI c ka ko F f) : TD false γ (cF (makeF c F) ms) (kObj c ko) (fun s => G O s f) := fun s e μ E => by
  dsimp only
  rcases ha s e μ E with ⟨a, e1, e2, hc⟩ | ⟨y, fs, e1, hc⟩ | hc
  · rw [hc]
    have : cF (makeF c F) ms e μ = makeF c F (ka a) μ := by unfold cF; rw [e1]; rfl
    rw [this]
    have h := hf a
    revert h
    cases hv : f a with
    | ok v =>
      rintro ⟨μ', q1, q2⟩
      show makeF c F (ka a) μ = _
      unfold makeF
      rw [if_pos e2, q1]
      simp only [q2]
      rfl
    | ex c ds => exact fun _ z => by cases z
    | no => exact fun _ => trivial
  · rw [hc]; exact fun z => by cases z
  · rw [hc]; trivial
/-- o.f -/
theorem td_fld {c i : Nat} {ko : O → List D} {kf : α → D} (p : O → α) (ho : TD x γ mo (kObj c ko) go) (h : ∀ o, (ko o)[i]? = some (kf (p o)) := by intro _; rfl) : TD x γ (cU (dFld c i) mo) kf (fun s => (go s).bind fun o => .ok (p o)) := fun s e μ E => by
  refine Sim.bind.mpr ((ho s e μ E).imp (fun o q1 => ?_) fun y ds q => by unfold cU; rw [q]; rfl)
  show cU (dFld c i) mo e μ = _
  unfold cU
  rw [q1]
  show dFld c i (.obj c (ko o)) μ = _
  rw [d_fldO, h]
end
/-! ### cells are changed -/
section
variable {S C A J V N L ρ δ : Type} {x : Bool} {γ : Sls S} {Qn : S → N → Ev → Mu → Prop} {Ql : S → L → Ev → Mu → Prop} {Qr : ρ → D → Mu → Prop} {Qx : S → Ev → Mu → Prop} {r : SM} {ms : MA} {kas : A → List D} {G : (β : Type) → S → (A → R β) → R β} {ma mi : M}
def OpMT (x : Bool) (fm : FM) (kc : C → D) (kas : A → List D) (op : C → A → R C) : Prop := ∀ c a μ n ds, μ[n]? = some (kc c) → VwL μ ds (kas a) → Sim x (op c a) (fun c' => ∃ d, fm (.ref n) ds μ = .ok (d, μ.set n (kc c'))) (fun y fs => fm (.ref n) ds μ = .ex y fs μ)
def CellT (T : String) (kc : C → D) : Prop := ∀ c (μ : Mu) n, μ[n]? = some (kc c) → isT T (.ref n) μ = true
theorem tb_mut (i : Nat) {o : Option Nat} {T : String} {fm : FM} {kc : C → D} {op : C → A → R C} {f : S → C} {g2 : S × C → R (Fl N L ρ)} (hi : nth γ i = .cel o (fun s => kc (f s))) (ha : TA x γ ms kas G) (ht : CellT T kc) (ho : OpMT x fm kc kas op)
    (kk : TB x (put (lifts Prod.fst γ) i (.cel o fun t => kc t.2)) r (fun t => Qn t.1) (fun t => Ql t.1) Qr (fun t => Qx t.1) g2) (hx : x = true → ∀ s e μ, Enc γ s e μ → Qx s e μ) :
    TB x γ (sSeq (sExpr (cM T fm (cV i) ms)) r) Qn Ql Qr Qx (fun s => (G C s fun a => op (f s) a).bind fun c => g2 (s, c)) := tb_sto (δ := put (lifts Prod.fst γ) i (.cel o fun t => kc t.2)) (fun s e μ E => by
  obtain ⟨n, e1, e2⟩ := E.cel hi
  have ev : cV i e μ = .ok (.ref n, μ) := by unfold cV; rw [e1]
  rcases ha s e μ E with ⟨a, ds, q, v, _, hc⟩ | ⟨y, fs, q, hc⟩ | hc
  · rw [hc]
    have h := ho (f s) a μ n ds e2 v
    have t := ht (f s) μ n e2
    have em : cM T fm (cV i) ms e μ = fm (.ref n) ds μ := by
      unfold cM; rw [ev]
      show (if isT T (.ref n) μ then (ms e μ).bind _ else _) = _
      rw [if_pos t, q]; rfl
    revert h
    cases op (f s) a with
    | ok c =>
      rintro ⟨d, h⟩
      refine ⟨e, μ.set n (kc c), by unfold sExpr eThen; rw [em, h], ?_⟩
      exact (Enc.lift (p := Prod.fst) (t := (s, c)) E).mut (f := fun t => kc (f t.1)) (f' := fun t => kc t.2) (by rw [nth_lifts, hi]; rfl) e1
    | ex y fs => exact fun h z => ⟨e, μ, by unfold sExpr eThen; rw [em, h z], hx z s e μ E⟩
    | no => exact fun _ => trivial
  · rw [hc]
    have em : x = true → cM T fm (cV i) ms e μ = .ex y fs μ := fun z => by
      unfold cM; rw [ev]
      show (if isT T (.ref n) μ then (ms e μ).bind _ else _) = _
      rw [if_pos (ht (f s) μ n e2), q z]; rfl
    exact fun z => ⟨e, μ, by unfold sExpr eThen; rw [em z], hx z s e μ E⟩
  · rw [hc]; trivial) kk
/-- .. by frozen arguments alone -/
def OpMD1 (x : Bool) (fm : FM) (kc : C → D) (kas : A → List D) (op : C → A → R C) : Prop := ∀ c a μ n, μ[n]? = some (kc c) → Sim x (op c a) (fun c' => ∃ d, fm (.ref n) (kas a) μ = .ok (d, μ.set n (kc c'))) (fun y fs => fm (.ref n) (kas a) μ = .ex y fs μ)
theorem tb_mutD (i : Nat) {o : Option Nat} {T : String} {fm : FM} {kc : C → D} {op : C → A → R C} {f : S → C} {g2 : S × C → R (Fl N L ρ)} (hi : nth γ i = .cel o (fun s => kc (f s))) (ha : TAD x γ ms kas G) (ht : CellT T kc) (ho : OpMD1 x fm kc kas op)
    (kk : TB x (put (lifts Prod.fst γ) i (.cel o fun t => kc t.2)) r (fun t => Qn t.1) (fun t => Ql t.1) Qr (fun t => Qx t.1) g2) (hx : x = true → ∀ s e μ, Enc γ s e μ → Qx s e μ) :
    TB x γ (sSeq (sExpr (cM T fm (cV i) ms)) r) Qn Ql Qr Qx (fun s => (G C s fun a => op (f s) a).bind fun c => g2 (s, c)) := tb_sto (δ := put (lifts Prod.fst γ) i (.cel o fun t => kc t.2)) (fun s e μ E => by
  obtain ⟨n, e1, e2⟩ := E.cel hi
  have ev : cV i e μ = .ok (.ref n, μ) := by unfold cV; rw [e1]
  rcases ha s e μ E with ⟨a, q, _, hc⟩ | ⟨y, fs, q, hc⟩ | hc
  · rw [hc]
    have h := ho (f s) a μ n e2
    have t := ht (f s) μ n e2
    have em : cM T fm (cV i) ms e μ = fm (.ref n) (kas a) μ := by
      unfold cM; rw [ev]
      show (if isT T (.ref n) μ then (ms e μ).bind _ else _) = _
      rw [if_pos t, q]; rfl
    revert h
    cases op (f s) a with
    | ok c =>
      rintro ⟨d, h⟩
      refine ⟨e, μ.set n (kc c), by unfold sExpr eThen; rw [em, h], ?_⟩
      exact (Enc.lift (p := Prod.fst) (t := (s, c)) E).mut (f := fun t => kc (f t.1)) (f' := fun t => kc t.2) (by rw [nth_lifts, hi]; rfl) e1
    | ex y fs => exact fun h z => ⟨e, μ, by unfold sExpr eThen; rw [em, h z], hx z s e μ E⟩
    | no => exact fun _ => trivial
  · rw [hc]
    have em : x = true → cM T fm (cV i) ms e μ = .ex y fs μ := fun z => by
      unfold cM; rw [ev]
      show (if isT T (.ref n) μ then (ms e μ).bind _ else _) = _
      rw [if_pos (ht (f s) μ n e2), q z]; rfl
    exact fun z => ⟨e, μ, by unfold sExpr eThen; rw [em z], hx z s e μ E⟩
  · rw [hc]; trivial) kk
end
end Lr

/-! Lr, part 35: stores by place, x += e, displays, slices, what a loop walks, comprehensions. -/
namespace Lr
open PySem L2
section
variable {S C A J V N L ρ δ α β : Type} {e : Ev} {μ : Mu} {x : Bool} {γ : Sls S} {Qn : S → N → Ev → Mu → Prop} {Ql : S → L → Ev → Mu → Prop} {Qr : ρ → D → Mu → Prop} {Qx : S → Ev → Mu → Prop} {r : SM} {ms : MA} {kas : A → List D} {G : (β : Type) → S → (A → R β) → R β} {ma mi mb : M}
/-- c[j] = v -/
def OpST (kc : C → D) (kj : J → D) (kv : V → D) (op : C → J → V → R C) : Prop := ∀ c j v (μ : Mu) n, μ[n]? = some (kc c) → Sim false (op c j v) (fun c' => dSet (.ref n) (kj j) (kv v) μ = some (μ.set n (kc c'))) (fun _ _ => True)
theorem tb_st (i : Nat) {o : Option Nat} {kc : C → D} {kj : J → D} {kv : V → D} {op : C → J → V → R C} {f : S → C} {gv : S → R V} {gj : S → R J} {g2 : S × C → R (Fl N L ρ)} (hi : nth γ i = .cel o (fun s => kc (f s))) (hv : TD x γ ma kv gv) (hj : TD x γ mi kj gj) (ho : OpST kc kj kv op)
    (kk : TB x (put (lifts Prod.fst γ) i (.cel o fun t => kc t.2)) r (fun t => Qn t.1) (fun t => Ql t.1) Qr (fun t => Qx t.1) g2) (hx : x = true → ∀ s e μ, Enc γ s e μ → Qx s e μ) :
    TB x γ (sSeq (sSub (cV i) mi ma) r) Qn Ql Qr Qx (fun s => ((gv s).bind fun v => (gj s).bind fun j => (op (f s) j v).ne).bind fun c => g2 (s, c)) := tb_sto (δ := put (lifts Prod.fst γ) i (.cel o fun t => kc t.2)) (fun s e μ E => by
  obtain ⟨n, e1, e2⟩ := E.cel hi
  have ev : cV i e μ = .ok (.ref n, μ) := by unfold cV; rw [e1]
  refine Sim.bind.mpr ?_
  have h1 := hv s e μ E
  revert h1
  cases gv s with
  | ok v =>
    intro q1
    have q1 : ma e μ = .ok (kv v, μ) := q1
    show Sim x ((gj s).bind _) _ _
    refine Sim.bind.mpr ?_
    have h2 := hj s e μ E
    revert h2
    cases gj s with
    | ok j =>
      intro q2
      have q2 : mi e μ = .ok (kj j, μ) := q2
      have h3 := ho (f s) j v μ n e2
      show Sim x (op (f s) j v).ne _ _
      revert h3
      cases op (f s) j v with
      | ok c =>
        intro q3
        have q3 : dSet (.ref n) (kj j) (kv v) μ = some (μ.set n (kc c)) := q3
        refine ⟨e, μ.set n (kc c), ?_, (Enc.lift (p := Prod.fst) (t := (s, c)) E).mut (f := fun t => kc (f t.1)) (f' := fun t => kc t.2) (by rw [nth_lifts, hi]; rfl) e1⟩
        rw [e_sub, q1, e_sub1, ev, e_sub2, q2]
        exact e_sub3 q3
      | ex => exact fun _ => trivial
      | no => exact fun _ => trivial
    | ex c ds => exact fun q2 z => ⟨e, μ, by rw [e_sub, q1, e_sub1, ev, e_sub2, q2 z]; rfl, hx z s e μ E⟩
    | no => exact fun _ => trivial
  | ex c ds => exact fun q1 z => ⟨e, μ, by rw [e_sub, q1 z]; rfl, hx z s e μ E⟩
  | no => exact fun _ => trivial) kk
/-- x op= e -/
theorem tb_aug (i : Nat) {f2 : F2} {k : α → D} {kb : β → D} {op : α → β → R α} {f : S → α} {gb : S → R β} {g2 : S × α → R (Fl N L ρ)} (hi : nth γ i = .val (fun s => k (f s))) (hb : TE x γ mb kb gb) (ho : Op2T x f2 k kb k op)
    (kk : TB x (put (lifts Prod.fst γ) i (.val fun t => k t.2)) r (fun t => Qn t.1) (fun t => Ql t.1) Qr (fun t => Qx t.1) g2) (hx : x = true → ∀ s e μ, Enc γ s e μ → Qx s e μ) :
    TB x γ (sSeq (sAug i f2 mb) r) Qn Ql Qr Qx (fun s => ((gb s).bind fun b => op (f s) b).bind fun c => g2 (s, c)) := tb_sto (δ := put (lifts Prod.fst γ) i (.val fun t => k t.2)) (fun s e μ E => by
  have e1 := E.val hi
  refine Sim.bind.mpr ?_
  have h1 := hb s e μ E
  revert h1
  cases gb s with
  | ok b =>
    rintro ⟨d, q1, v1⟩
    have h2 := ho (f s) b μ (k (f s)) d (.inl rfl) v1
    revert h2
    show _ → Sim x (op (f s) b) _ _
    cases op (f s) b with
    | ok c =>
      intro q2
      have q2 : f2 (k (f s)) d μ = .ok (k c, μ) := q2
      refine ⟨e.set i (some (k c)), μ, ?_, (Enc.lift (p := Prod.fst) (t := (s, c)) E).setV i fun t => k t.2⟩
      unfold sAug
      rw [e1]
      simp only [q1, Res.bind, q2]
      rfl
    | ex c ds =>
      intro q2 z
      refine ⟨e, μ, ?_, hx z s e μ E⟩
      unfold sAug
      rw [e1]
      simp only [q1, Res.bind, q2 z]
      rfl
    | no => exact fun _ => trivial
  | ex c ds =>
    intro q z
    refine ⟨e, μ, ?_, hx z s e μ E⟩
    unfold sAug
    rw [e1]
    simp only [q z, Res.bind]
    rfl
  | no => exact fun _ => trivial) kk
/-- an expression alone -/
theorem tb_ex {k : α → D} {ga : S → R α} {g2 : S → R (Fl N L ρ)} (h : TD x γ ma k ga) (kk : TB x γ r Qn Ql Qr Qx g2) (hx : x = true → ∀ s e μ, Enc γ s e μ → Qx s e μ) : TB x γ (sSeq (sExpr ma) r) Qn Ql Qr Qx (fun s => (ga s).bind fun _ => g2 s) := fun s e μ E => by
  refine Sim.bind.mpr ?_
  have h := h s e μ E
  revert h
  cases ga s with
  | ok v =>
    intro q
    have q : ma e μ = .ok (k v, μ) := q
    have := kk s e μ E
    have e1 : sSeq (sExpr ma) r e μ = r e μ := by unfold sSeq sExpr eThen; rw [q]
    rw [← e1] at this
    exact this
  | ex c ds => exact fun q z => ⟨e, μ, by unfold sSeq sExpr eThen; rw [q z], hx z s e μ E⟩
  | no => exact fun _ => trivial
/-! displays -/
theorem td_tup {k : δ → D} {ms : MA} (p : A → δ) (ha : TAD x γ ms kas G) (hk : ∀ a, D.tup (kas a) = k (p a) := by intro _; rfl) (hl : ∀ a, (kas a).length ≤ 1000 := by intro _; simp) : TD x γ (cTup ms) k (fun s => G δ s fun a => .ok (p a)) := fun s e μ E => by
  dsimp only
  rcases ha s e μ E with ⟨a, e1, e2, hc⟩ | ⟨y, fs, e1, hc⟩ | hc
  · rw [hc]
    show cTup ms e μ = _
    unfold cTup
    rw [e1]
    show (if (kas a).length ≤ lineN then _ else _) = _
    rw [if_pos (len_le (Nat.le_trans (hl a) (by decide))), hk]
  · rw [hc]; exact fun z => by unfold cTup; rw [e1 z]; rfl
  · rw [hc]; trivial
theorem td_lst {k : δ → D} {ms : MA} (p : A → δ) (ha : TAD x γ ms kas G) (hk : ∀ a, D.lst (kas a) = k (p a) := by intro _; rfl) (hl : ∀ a, (kas a).length ≤ 1000 := by intro _; simp) : TD x γ (cLst false ms) k (fun s => G δ s fun a => .ok (p a)) := fun s e μ E => by
  dsimp only
  rcases ha s e μ E with ⟨a, e1, e2, hc⟩ | ⟨y, fs, e1, hc⟩ | hc
  · rw [hc]
    show cLst false ms e μ = _
    unfold cLst
    rw [e1]
    show (if (kas a).length ≤ lineN then Res.ok (D.lst (kas a), μ) else _) = _
    rw [if_pos (len_le (Nat.le_trans (hl a) (by decide))), hk]
  · rw [hc]; exact fun z => by unfold cLst; rw [e1 z]; rfl
  · rw [hc]; trivial
theorem tc_lst {k : δ → D} {ms : MA} (p : A → δ) (ha : TAD x γ ms kas G) (hk : ∀ a, D.lst (kas a) = k (p a) := by intro _; rfl) (hl : ∀ a, (kas a).length ≤ 1000 := by intro _; simp) : TC x γ (cLst true ms) k (fun s => G δ s fun a => .ok (p a)) := fun s e μ E => by
  dsimp only
  rcases ha s e μ E with ⟨a, e1, e2, hc⟩ | ⟨y, fs, e1, hc⟩ | hc
  · rw [hc]
    show cLst true ms e μ = _
    unfold cLst
    rw [e1]
    show (if (kas a).length ≤ lineN then Res.ok (D.ref μ.length, μ ++ [D.lst (kas a)]) else _) = _
    rw [if_pos (len_le (Nat.le_trans (hl a) (by decide))), hk]
  · rw [hc]; exact fun z => by unfold cLst; rw [e1 z]; rfl
  · rw [hc]; trivial
theorem tc_dicK {kc : C → D} (c : C) (h : D.dic [] = kc c := by rfl) : TC x γ (cDicK true) kc (fun _ => .ok c) := fun s e μ E => by show Res.ok (D.ref μ.length, μ ++ [D.dic []]) = _; rw [h]
theorem tc_dicT {kc : C → D} (c : C) (h : D.dit [] = kc c := by rfl) : TC x γ (cDicT true) kc (fun _ => .ok c) := fun s e μ E => by show Res.ok (D.ref μ.length, μ ++ [D.dit []]) = _; rw [h]
/-- the same value told otherwise -/
theorem td_conv {k : α → D} {l : β → D} {ga : S → R α} (f : α → β) (h : TD x γ ma k ga) (hk : ∀ a, k a = l (f a) := by intro _; rfl) : TD x γ ma l (fun s => (ga s).bind fun a => .ok (f a)) := fun s e μ E => Sim.bind.mpr ((h s e μ E).imp (fun a q => by show ma e μ = _; rw [q, hk]) fun _ _ q => q)
theorem te_conv {k : α → D} {l : β → D} {ga : S → R α} (f : α → β) (h : TE x γ ma k ga) (hk : ∀ a, k a = l (f a) := by intro _; rfl) : TE x γ ma l (fun s => (ga s).bind fun a => .ok (f a)) := fun s e μ E => Sim.bind.mpr ((h s e μ E).imp (fun a q => by show ∃ d, ma e μ = _ ∧ _; rw [← hk]; exact q) fun _ _ q => q)
/-- a part of a value -/
theorem td_prj {k : α → D} {l : β → D} {ga : S → R α} {i : Int} (p : α → β) (h : TD x γ ma k ga) (hp : ∀ a μ, dIx (k a) (.int i) μ = .ok (l (p a), μ) := by intro _ _; rfl) : TD x γ (cB dIx ma (cK (.int i))) l (fun s => (ga s).bind fun a => .ok (p a)) := fun s e μ E => Sim.bind.mpr ((h s e μ E).imp (fun a q => by
  show cB dIx ma (cK (.int i)) e μ = _
  unfold cB
  rw [q]
  exact hp a μ) fun _ _ q => by unfold cB; rw [q]; rfl)
/-! parts of a slice -/
def TO (x : Bool) (γ : Sls S) (mo : MO) (g : S → R (Option Int)) : Prop := ∀ s e μ, Enc γ s e μ → Sim x (g s) (fun a => mo e μ = .ok (a, μ)) (fun c ds => mo e μ = .ex c ds μ)
theorem to_none : TO x γ oNone (fun _ => .ok none) := fun s e μ E => rfl
theorem to_some {ga : S → R Int} (h : TD x γ ma D.int ga) : TO x γ (oSome ma) (fun s => (ga s).bind fun a => .ok (some a)) := fun s e μ E => Sim.bind.mpr ((h s e μ E).imp (fun a q => by show oSome ma e μ = _; unfold oSome; rw [q]; rfl) fun _ _ q => by unfold oSome; rw [q]; rfl)
variable {ml mh : MO} {gl gh : S → R (Option Int)}
theorem sl_run {fl : Bool} {k : α → D} {ga : S → R α} {s : S} {e : Ev} {μ : Mu} {res : α → Option Int → Option Int → R δ} {P : δ → Res (D × Mu)} (E : Enc γ s e μ) (h : TE x γ ma k ga) (hl : TO x γ ml gl) (hh : TO x γ mh gh)
    (hd : ∀ a d lo hi, Vw μ d (k a) → Sim x (res a lo hi) (fun c => dSl fl d lo hi μ = P c) (fun c ds => dSl fl d lo hi μ = .ex c ds μ)) :
    Sim x ((ga s).bind fun a => (gl s).bind fun lo => (gh s).bind fun hi => res a lo hi) (fun c => cSl fl ma ml mh e μ = P c) (fun c ds => cSl fl ma ml mh e μ = .ex c ds μ) := by
  refine Sim.bind.mpr ((h s e μ E).imp (fun a ⟨d, q, v⟩ => ?_) fun _ _ q => by unfold cSl; rw [q]; rfl)
  have e0 : cSl fl ma ml mh e μ = (ml e μ).bind fun l => (mh e l.2).bind fun h => dSl fl d l.1 h.1 h.2 := by unfold cSl; rw [q]; rfl
  simp only [e0]
  refine Sim.bind.mpr ((hl s e μ E).imp (fun lo q2 => ?_) fun _ _ q => by rw [q]; rfl)
  simp only [q2, Res.bind]
  refine Sim.bind.mpr ((hh s e μ E).imp (fun hi q3 => ?_) fun _ _ q => by rw [q])
  simp only [q3]
  exact hd a d lo hi v
theorem td_slS {ga : S → R (List Nat)} (h : TD x γ ma D.str ga) (hl : TO x γ ml gl) (hh : TO x γ mh gh) : TD x γ (cSl false ma ml mh) D.str (fun s => (ga s).bind fun a => (gl s).bind fun lo => (gh s).bind fun hi => .ok (cutL a lo hi)) := fun s e μ E =>
  sl_run (res := fun a lo hi => .ok (cutL a lo hi)) E (te_td h) hl hh fun a d lo hi v => by rw [v.eq rfl]; exact rfl
theorem td_slT {k : α → D} {ga : S → R (List α)} (h : TD x γ ma (kTp k) ga) (hl : TO x γ ml gl) (hh : TO x γ mh gh) : TD x γ (cSl false ma ml mh) (kTp k) (fun s => (ga s).bind fun a => (gl s).bind fun lo => (gh s).bind fun hi => .ok (cutL a lo hi)) := fun s e μ E =>
  sl_run (res := fun a lo hi => .ok (cutL a lo hi)) E (te_td h) hl hh fun a d lo hi v => by
    rw [v.eq rfl]
    show Res.ok (D.tup (cutL (a.map k) lo hi), μ) = _
    rw [cutL_map]; rfl
theorem lof_vw {k : α → D} {μ : Mu} {d : D} {a : List α} (v : Vw μ d (kLs k a)) : lof d μ = some (a.map k) ∧ (∀ z, d ≠ .str z) ∧ (∀ z, d ≠ .tup z) ∧ (∀ z, d ≠ .int z) ∧ lofT d μ = some (a.map k) := by
  rcases v with rfl | ⟨n, rfl, h, _⟩
  · exact ⟨rfl, (fun z q => by cases q), (fun z q => by cases q), (fun z q => by cases q), rfl⟩
  · refine ⟨?_, (fun z q => by cases q), (fun z q => by cases q), (fun z q => by cases q), ?_⟩
    · simp only [lof, h]; rfl
    · simp only [lofT, h]; rfl
theorem sl_lof {fl : Bool} {d : D} {μ : Mu} {xs : List D} {lo hi : Option Int} (h1 : lof d μ = some xs) (h2 : ∀ z, d ≠ .str z) (h3 : ∀ z, d ≠ .tup z) : dSl fl d lo hi μ = .ok (mkL fl (cutL xs lo hi) μ) := by
  unfold dSl
  split
  · exact absurd rfl (h2 _)
  · exact absurd rfl (h3 _)
  · rw [h1]
theorem td_slL {k : α → D} {ga : S → R (List α)} (h : TE x γ ma (kLs k) ga) (hl : TO x γ ml gl) (hh : TO x γ mh gh) : TD x γ (cSl false ma ml mh) (kLs k) (fun s => (ga s).bind fun a => (gl s).bind fun lo => (gh s).bind fun hi => .ok (cutL a lo hi)) := fun s e μ E =>
  sl_run (res := fun a lo hi => .ok (cutL a lo hi)) E h hl hh fun a d lo hi v => by
    obtain ⟨h1, h2, h3, _⟩ := lof_vw v
    show dSl false d lo hi μ = _
    rw [sl_lof h1 h2 h3, cutL_map]; rfl
theorem tc_slL {k : α → D} {ga : S → R (List α)} (h : TE x γ ma (kLs k) ga) (hl : TO x γ ml gl) (hh : TO x γ mh gh) : TC x γ (cSl true ma ml mh) (kLs k) (fun s => (ga s).bind fun a => (gl s).bind fun lo => (gh s).bind fun hi => .ok (cutL a lo hi)) := fun s e μ E =>
  sl_run (res := fun a lo hi => .ok (cutL a lo hi)) (P := fun c => .ok (.ref μ.length, μ ++ [kLs k c])) E h hl hh fun a d lo hi v => by
    obtain ⟨h1, h2, h3, _⟩ := lof_vw v
    show dSl true d lo hi μ = _
    rw [sl_lof h1 h2 h3, cutL_map]; rfl
theorem td_slC {ga : S → R (List Int)} (h : TD x γ ma kScr ga) (hl : TO x γ ml gl) (hh : TO x γ mh gh) : TD x γ (cSl false ma ml mh) (kLs D.int) (fun s => (ga s).bind fun a => (gl s).bind fun lo => (gh s).bind fun hi => .ok (cutL a lo hi)) := fun s e μ E =>
  sl_run (res := fun a lo hi => .ok (cutL a lo hi)) E (te_td h) hl hh fun a d lo hi v => by
    rw [v.eq rfl]
    show Res.ok (D.lst (cutL (a.map D.int) lo hi), μ) = _
    rw [cutL_map]; rfl
/-- s[lo:hi:-1] .. of a text -/
theorem td_slR {st : Int} {ga : S → R (List Nat)} (h : TD x γ ma D.str ga) (hl : TO x γ ml gl) (hh : TO x γ mh gh) : TD x γ (cSlK st ma ml mh) D.str (fun s => (ga s).bind fun a => (gl s).bind fun lo => (gh s).bind fun hi => .ok (cutK a lo hi st)) := fun s e μ E => by
  refine Sim.bind.mpr ((h s e μ E).imp (fun a q => ?_) fun _ _ q => by unfold cSlK; rw [q]; rfl)
  have e0 : cSlK st ma ml mh e μ = (ml e μ).bind fun l => (mh e l.2).bind fun h => dSlK st (.str a) l.1 h.1 h.2 := by unfold cSlK; rw [q]; rfl
  simp only [e0]
  refine Sim.bind.mpr ((hl s e μ E).imp (fun lo q2 => ?_) fun _ _ q => by rw [q]; rfl)
  simp only [q2, Res.bind]
  refine Sim.bind.mpr ((hh s e μ E).imp (fun hi q3 => ?_) fun _ _ q => by rw [q])
  simp only [q3]
  exact rfl
/-- xs[lo:hi:st] of a list -/
theorem td_slK {st : Int} {k : α → D} {ga : S → R (List α)} (h : TE x γ ma (kLs k) ga) (hl : TO x γ ml gl) (hh : TO x γ mh gh) : TD x γ (cSlL false st ma ml mh) (kLs k) (fun s => (ga s).bind fun a => (gl s).bind fun lo => (gh s).bind fun hi => .ok (pickL a lo hi st)) := fun s e μ E => by
  refine Sim.bind.mpr ((h s e μ E).imp (fun a ⟨d, q, v⟩ => ?_) fun _ _ q => by unfold cSlL; rw [q]; rfl)
  have e0 : cSlL false st ma ml mh e μ = (ml e μ).bind fun l => (mh e l.2).bind fun h => match lof d h.2 with
    | some xs => .ok (mkL false (pickL xs l.1 h.1 st) h.2)
    | none => .no := by unfold cSlL; rw [q]; rfl
  simp only [e0]
  refine Sim.bind.mpr ((hl s e μ E).imp (fun lo q2 => ?_) fun _ _ q => by rw [q]; rfl)
  simp only [q2, Res.bind]
  refine Sim.bind.mpr ((hh s e μ E).imp (fun hi q3 => ?_) fun _ _ q => by rw [q])
  simp only [q3]
  obtain ⟨h1, _⟩ := lof_vw v
  rw [h1]
  show Res.ok (D.lst (pickL (a.map k) lo hi st), μ) = Res.ok (D.lst ((pickL a lo hi st).map k), μ)
  unfold pickL
  rw [List.length_map, List.map_filterMap]
  simp only [List.getElem?_map]
/-! what a loop walks -/
theorem ti_str {ga : S → R (List Nat)} (h : TD x γ ma D.str ga) : TI x γ (iVal ma) D.str (fun s => (ga s).bind fun a => .ok (sgs a)) := fun s e μ E => Sim.bind.mpr ((h s e μ E).imp (fun a q => by
  show iVal ma e μ = _
  unfold iVal; rw [q]
  show Res.ok (Src.fix (a.map fun c => D.str [c]), μ) = _
  unfold sgs; rw [List.map_map]; rfl) fun _ _ q => by unfold iVal; rw [q]; rfl)
theorem ti_tup {k : α → D} {ga : S → R (List α)} (h : TD x γ ma (kTp k) ga) : TI x γ (iVal ma) k ga := fun s e μ E => (h s e μ E).imp (fun a q => by unfold iVal; rw [q]; rfl) fun _ _ q => by unfold iVal; rw [q]; rfl
theorem ti_lst {k : α → D} {ga : S → R (List α)} (h : TD x γ ma (kLs k) ga) : TI x γ (iVal ma) k ga := fun s e μ E => (h s e μ E).imp (fun a q => by unfold iVal; rw [q]; rfl) fun _ _ q => by unfold iVal; rw [q]; rfl
theorem ti_scr {ga : S → R (List Int)} (h : TD x γ ma kScr ga) : TI x γ (iVal ma) D.int ga := fun s e μ E => (h s e μ E).imp (fun a q => by unfold iVal; rw [q]; rfl) fun _ _ q => by unfold iVal; rw [q]; rfl
/-- a tuple of parts of one kind -/
theorem ti_tps {k : δ → D} {l : α → D} {ga : S → R δ} (p : δ → List α) (h : TD x γ ma k ga) (hk : ∀ a, k a = kTp l (p a) := by intro _; rfl) : TI x γ (iVal ma) l (fun s => (ga s).bind fun a => .ok (p a)) := ti_tup (td_conv p h hk)
def rgZ (lo : Int) (n : Nat) : List Int := (List.range n).map fun i => lo + (i : Nat)
def rgC (lo c : Int) (n : Nat) : List Int := (List.range n).map fun i => lo + (i : Nat) * c
theorem rgZ_len {lo : Int} {n : Nat} : (rgZ lo n).length = n := by simp [rgZ]
def rg1 (j : Int) : R (List Int) := R.gd (okR j) (.ok (rgZ 0 j.toNat))
def rg2 (i j : Int) : R (List Int) := R.gd (okR i ∧ okR j) (.ok (rgZ i (j - i).toNat))
def rg3 (i j c : Int) : R (List Int) := R.gd (c ≠ 0 ∧ c.natAbs < 1073741824 ∧ Builtin.Range.small i j c = true) (.ok (rgC i c (Builtin.Range.rangeSize i j c).toNat))
theorem ti_range1 {ga : S → R Int} (h : TD x γ ma D.int ga) : TI x γ (iRange1 (cCons ma cNil)) D.int (fun s => (ga s).bind rg1) := fun s e μ E => Sim.bind.mpr ((h s e μ E).imp (fun a q => by
  unfold rg1
  refine Sim.gd fun hp => ?_
  show iRange1 (cCons ma cNil) e μ = _
  unfold iRange1 cCons
  rw [q]
  show (if okR a then _ else _) = _
  rw [if_pos hp]
  unfold rgZ rangeD
  rw [List.map_map]; rfl) fun _ _ q => by unfold iRange1 cCons; rw [q]; rfl)
theorem c1_ok {a : D} (q : ma e μ = .ok (a, μ)) : cCons ma cNil e μ = .ok ([a], μ) := by unfold cCons; rw [q]; rfl
theorem c1_ex {y : Nat} {fs : List D} (q : ma e μ = .ex y fs μ) : cCons ma ms e μ = .ex y fs μ := by unfold cCons; rw [q]; rfl
theorem c2_ok {a : D} {ds : List D} (q : ma e μ = .ok (a, μ)) (q2 : ms e μ = .ok (ds, μ)) : cCons ma ms e μ = .ok (a :: ds, μ) := by unfold cCons; rw [q]; simp only [Res.bind, q2]
theorem c2_ex {a : D} {y : Nat} {fs : List D} (q : ma e μ = .ok (a, μ)) (q2 : ms e μ = .ex y fs μ) : cCons ma ms e μ = .ex y fs μ := by unfold cCons; rw [q]; simp only [Res.bind, q2]
theorem ti_range2 {ga gb : S → R Int} (h : TD x γ ma D.int ga) (h2 : TD x γ mb D.int gb) : TI x γ (iRange2 (cCons ma (cCons mb cNil))) D.int (fun s => (ga s).bind fun a => (gb s).bind fun b => rg2 a b) := fun s e μ E => Sim.bind.mpr ((h s e μ E).imp (fun a q => Sim.bind.mpr ((h2 s e μ E).imp (fun b q2 => by
  unfold rg2
  refine Sim.gd fun hp => ?_
  show iRange2 (cCons ma (cCons mb cNil)) e μ = _
  unfold iRange2
  rw [c2_ok q (c1_ok q2)]
  show (if okR a ∧ okR b then _ else _) = _
  rw [if_pos hp]
  unfold rgZ rangeD
  rw [List.map_map]; rfl) fun _ _ q2 => by unfold iRange2; rw [c2_ex q (c1_ex q2)]; rfl)) fun _ _ q => by unfold iRange2; rw [c1_ex q]; rfl)
theorem ti_range3 {mc : M} {ga gb gc : S → R Int} (h : TD x γ ma D.int ga) (h2 : TD x γ mb D.int gb) (h3 : TD x γ mc D.int gc) : TI x γ (iRange3 (cCons ma (cCons mb (cCons mc cNil)))) D.int (fun s => (ga s).bind fun a => (gb s).bind fun b => (gc s).bind fun c => rg3 a b c) := fun s e μ E =>
  Sim.bind.mpr ((h s e μ E).imp (fun a q => Sim.bind.mpr ((h2 s e μ E).imp (fun b q2 => Sim.bind.mpr ((h3 s e μ E).imp (fun c q3 => by
  unfold rg3
  refine Sim.gd fun hp => ?_
  show iRange3 (cCons ma (cCons mb (cCons mc cNil))) e μ = _
  unfold iRange3
  rw [c2_ok q (c2_ok q2 (c1_ok q3))]
  show (if c ≠ 0 ∧ c.natAbs < 1073741824 ∧ Builtin.Range.small a b c = true then _ else _) = _
  rw [if_pos hp]
  unfold rgC rangeC
  rw [List.map_map]; rfl) fun _ _ q3 => by unfold iRange3; rw [c2_ex q (c2_ex q2 (c1_ex q3))]; rfl)) fun _ _ q2 => by unfold iRange3; rw [c2_ex q (c1_ex q2)]; rfl)) fun _ _ q => by unfold iRange3; rw [c1_ex q]; rfl)
/-- .. in a comprehension: also a cell -/
def TW {X : Type} (x : Bool) (γ : Sls S) (mi : MI) (k : X → D) (g : S → R (List X)) : Prop := ∀ s e μ, Enc γ s e μ → Sim x (g s) (fun xs => ∃ src, mi e μ = .ok (src, μ) ∧ items src μ = some (xs.map k)) (fun c ds => mi e μ = .ex c ds μ)
theorem tw_ti {X : Type} {mi : MI} {k : X → D} {g : S → R (List X)} (h : TI x γ mi k g) : TW x γ mi k g := fun s e μ E => (h s e μ E).imp (fun xs q => ⟨_, q, rfl⟩) fun _ _ q => q
theorem tw_cel (i : Nat) {k : α → D} {f : S → List α} {o : Option Nat} (hi : nth γ i = .cel o (fun s => kLs k (f s)) := by rfl) : TW x γ (iVal (cV i)) k (fun s => .ok (f s)) := fun s e μ E => by
  obtain ⟨n, a, b⟩ := E.cel hi
  refine ⟨.live (.ref n), ?_, ?_⟩
  · unfold iVal cV
    rw [a]
    show (match μ[n]? with | some (.lst _) => _ | _ => _) = _
    rw [b]; rfl
  · show lof (.ref n) μ = _
    simp only [lof, b]; rfl
def wipeS {S : Type} (own : List Nat) : Nat → Sls S → Sls S
  | _, [] => []
  | i, x :: r => (bif own.contains i then .un else x) :: wipeS own (i + 1) r
theorem wipeS_len {own : List Nat} : ∀ {i : Nat} {γ : Sls S}, (wipeS own i γ).length = γ.length
  | _, [] => rfl
  | i, x :: r => by simp [wipeS, wipeS_len]
theorem nth_wipeS {own : List Nat} : ∀ {i : Nat} {γ : Sls S} {j : Nat}, nth (wipeS own i γ) j = bif own.contains (i + j) then .un else nth γ j
  | i, [], j => by cases own.contains (i + j) <;> rfl
  | i, x :: r, 0 => rfl
  | i, x :: r, j + 1 => by
    show nth (wipeS own (i + 1) r) j = _
    rw [nth_wipeS, show i + 1 + j = i + (j + 1) by omega]
    rfl
theorem Enc.wipe {s : S} {e : Ev} {μ : Mu} (E : Enc γ s e μ) (own : List Nat) : Enc (wipeS own 0 γ) s (wp0 own e) μ where
  len := by rw [wipeS_len]; unfold wp0; rw [List.length_mapIdx]; exact E.len
  ok := fun i => by
    rw [nth_wipeS, Nat.zero_add]
    have h := E.ok i
    unfold wp0
    rw [List.getElem?_mapIdx]
    cases hc : own.contains i with
    | true => trivial
    | false =>
      show SlOk μ s _ (nth γ i)
      cases q : e[i]? with
      | none => rw [q] at h; exact h
      | some o =>
        rw [q] at h
        exact h
  dj := fun i j n ci cj ei ej => by
    have key : ∀ k, (nth (wipeS own 0 γ) k).isC = true → (wp0 own e)[k]? = some (some (.ref n)) → (nth γ k).isC = true ∧ e[k]? = some (some (.ref n)) := fun k ck ek => by
      rw [nth_wipeS, Nat.zero_add] at ck
      unfold wp0 at ek
      rw [List.getElem?_mapIdx] at ek
      cases hc : own.contains k with
      | true => rw [hc] at ck; cases ck
      | false =>
        rw [hc] at ck ek
        refine ⟨ck, ?_⟩
        cases q : e[k]? with
        | none => rw [q] at ek; cases ek
        | some o => rw [q] at ek; exact ek
    exact E.dj i j n (key i ci ei).1 (key j cj ej).1 (key i ci ei).2 (key j cj ej).2
section
variable {X Y : Type} {T : Tg} {kx : X → D} {ky : Y → D} {ws : List (Nat × (X → D))} {mx : MI} {tst : MT} {elt : M} {own : List Nat} {gi : S → R (List X)} {gt : S × X → R Bool} {gy : S × X → R Y} {x2 x3 : Bool}
theorem lc_run2 (ht : Tgt T kx ws) (h1 : TT x2 (puts (wipeS own 0 γ) ws) tst gt) (h2 : TD x3 (puts (wipeS own 0 γ) ws) elt ky gy) {s : S} {e : Ev} {μ : Mu} (E : Enc γ s e μ) {src : Src} {xs : List X} (hs : items src μ = some (xs.map kx)) (hl : xs.length ≤ lineN) :
    ∀ (rem : List X) (i f : Nat) (acc : List Y), rem = xs.drop i → rem.length < f → acc.length ≤ i → Sim false (lcL (fun v => gt (s, v)) (fun v => gy (s, v)) rem) (fun ys => lcGo T tst elt src (wp0 own e) f i (acc.map ky) μ = .ok ((acc ++ ys).map ky, μ)) (fun _ _ => True) := by
  intro rem
  induction rem with
  | nil =>
    intro i f acc hr hf ha
    obtain ⟨f, rfl⟩ : ∃ g, f = g + 1 := ⟨f - 1, by omega⟩
    show lcGo T tst elt src (wp0 own e) (f + 1) i (acc.map ky) μ = _
    unfold lcGo
    rw [hs]
    have : (xs.map kx)[i]? = none := by
      rw [List.getElem?_eq_none_iff, List.length_map]
      exact List.drop_eq_nil_iff.mp hr.symm
    simp only [this, List.append_nil]
  | cons v rem ih =>
    intro i f acc hr hf ha
    obtain ⟨f, rfl⟩ : ∃ g, f = g + 1 := ⟨f - 1, by omega⟩
    have hv : (xs.map kx)[i]? = some (kx v) := by
      rw [List.getElem?_map]
      have : xs[i]? = some v := by
        have := congrArg (fun z => z[0]?) hr
        simpa [List.getElem?_drop] using this.symm
      rw [this]; rfl
    have hr' : rem = xs.drop (i + 1) := by
      have := congrArg List.tail hr
      simpa [List.tail_drop] using this
    have hil : i < xs.length := by
      have := congrArg List.length hr
      rw [List.length_cons, List.length_drop] at this
      omega
    have E1 := (E.wipe own).puts (v := v) ws
    unfold lcL
    refine Sim.bind.mpr ?_
    have q1 := h1 (s, v) _ μ E1
    have step : ∀ z, lcGo T tst elt src (wp0 own e) (f + 1) i (acc.map ky) μ = z ↔ (match tst (ws.foldl (fun e w => e.set w.1 (some (w.2 v))) (wp0 own e)) μ with
          | .ok (true, μ2) => match elt (ws.foldl (fun e w => e.set w.1 (some (w.2 v))) (wp0 own e)) μ2 with
            | .ok (y, μ3) => if (acc.map ky).length < lineN then lcGo T tst elt src (wp0 own e) f (i + 1) (acc.map ky ++ [y]) μ3 else .no
            | _ => .no
          | .ok (false, μ2) => lcGo T tst elt src (wp0 own e) f (i + 1) (acc.map ky) μ2
          | _ => .no) = z := fun z => by
      rw [lcGo]
      simp only [hs, hv]
      rw [ht v (wp0 own e)]
      try exact Iff.rfl
    simp only [step]
    revert q1
    cases gt (s, v) with
    | ok b =>
      intro q1
      have q1 : tst (ws.foldl (fun e w => e.set w.1 (some (w.2 v))) (wp0 own e)) μ = .ok (b, μ) := q1
      simp only [q1]
      cases b with
      | false => exact ih (i + 1) f acc hr' (by simp at hf; omega) (by omega)
      | true =>
        show Sim false (R.bind (gy (s, v)).ne _) _ _
        refine Sim.bind.mpr ?_
        have q2 := h2 (s, v) _ μ E1
        revert q2
        cases gy (s, v) with
        | ok y =>
          intro q2
          have q2 : elt (ws.foldl (fun e w => e.set w.1 (some (w.2 v))) (wp0 own e)) μ = .ok (ky y, μ) := q2
          simp only [q2]
          show Sim false (R.bind _ _) _ _
          refine Sim.bind.mpr ((ih (i + 1) f (acc ++ [y]) hr' (by simp at hf; omega) (by simp; omega)).imp (fun ys q3 => ?_) fun _ _ z => z)
          show (if (acc.map ky).length < lineN then _ else _) = _
          rw [if_pos (by rw [List.length_map]; omega)]
          rw [List.map_append] at q3
          rw [show (acc ++ y :: ys) = (acc ++ [y]) ++ ys by simp]
          exact q3
        | ex => exact fun _ => trivial
        | no => exact fun _ => trivial
    | ex => exact fun _ => trivial
    | no => exact fun _ => trivial
theorem lc_both {fl : Bool} (hi : TW x γ mx kx gi) (ht : Tgt T kx ws) (h1 : TT x2 (puts (wipeS own 0 γ) ws) tst gt) (h2 : TD x3 (puts (wipeS own 0 γ) ws) elt ky gy) {s : S} {e : Ev} {μ : Mu} (E : Enc γ s e μ) :
    Sim x ((gi s).bind fun xs => (lcR xs (fun v => gt (s, v)) fun v => gy (s, v)).ne) (fun ys => cLc fl T mx tst elt own e μ = .ok (mkL fl (ys.map ky) μ)) (fun c ds => cLc fl T mx tst elt own e μ = .ex c ds μ) := by
  refine Sim.bind.mpr ((hi s e μ E).imp (fun xs ⟨src, q, hs⟩ => ?_) fun _ _ q => by unfold cLc; rw [q]; rfl)
  have e0 : cLc fl T mx tst elt own e μ = (lcGo T tst elt src (wp0 own e) fuel 0 [] μ).bind fun r => .ok (mkL fl r.1 r.2) := by unfold cLc; rw [q]; rfl
  simp only [e0]
  unfold lcR
  by_cases hl : xs.length ≤ lineN
  · rw [R.gd_t hl]
    have h := lc_run2 ht h1 h2 E hs hl xs 0 fuel [] rfl (Nat.lt_of_le_of_lt hl (by have := fuel_ge; unfold lineN; omega)) (Nat.le_refl _)
    revert h
    cases lcL (fun v => gt (s, v)) (fun v => gy (s, v)) xs with
    | ok ys =>
      intro h
      have h : lcGo T tst elt src (wp0 own e) fuel 0 [] μ = .ok ((([] : List Y) ++ ys).map ky, μ) := h
      show (lcGo T tst elt src (wp0 own e) fuel 0 [] μ).bind _ = _
      rw [h]; rfl
    | ex => exact fun _ => trivial
    | no => exact fun _ => trivial
  · unfold R.gd
    rw [if_neg hl]; trivial
theorem td_lc (hi : TW x γ mx kx gi) (ht : Tgt T kx ws) (h1 : TT x2 (puts (wipeS own 0 γ) ws) tst gt) (h2 : TD x3 (puts (wipeS own 0 γ) ws) elt ky gy) : TD x γ (cLc false T mx tst elt own) (kLs ky) (fun s => (gi s).bind fun xs => (lcR xs (fun v => gt (s, v)) fun v => gy (s, v)).ne) := fun s e μ E => lc_both (fl := false) hi ht h1 h2 E
theorem tc_lc (hi : TW x γ mx kx gi) (ht : Tgt T kx ws) (h1 : TT x2 (puts (wipeS own 0 γ) ws) tst gt) (h2 : TD x3 (puts (wipeS own 0 γ) ws) elt ky gy) : TC x γ (cLc true T mx tst elt own) (kLs ky) (fun s => (gi s).bind fun xs => (lcR xs (fun v => gt (s, v)) fun v => gy (s, v)).ne) := fun s e μ E => lc_both (fl := true) hi ht h1 h2 E
theorem tt_true : TT x γ tTrue (fun _ => .ok true) := fun s e μ E => rfl
end
end
end Lr

/-! Lr, part 36: operations with types. -/
namespace Lr
open PySem L2
local macro_rules | `(tactic| walk_at "dt") => `(tactic| ((try simp only [Dt.n] at *); omega))
section
variable {α β δ T A : Type} {x : Bool} {k : α → D} {l : β → D} {μ : Mu} {d : D}
theorem vi {a : Int} (v : Vw μ d (.int a)) : d = .int a := v.eq rfl
theorem vs {a : List Nat} (v : Vw μ d (.str a)) : d = .str a := v.eq rfl
theorem vb {a : Bool} (v : Vw μ d (.bl a)) : d = .bl a := v.eq rfl
def imulR (a b : Int) : R Int := R.gd (okMul a b) (.ok (a * b))
def idivR (a b : Int) : R Int := R.gd (okDiv b) (.ok (a / b))
def imodR (a b : Int) : R Int := R.gd (0 < b) (.ok (a % b))
def addR (a b : List α) : R (List α) := R.gd (a.length + b.length ≤ lineN) (.ok (a ++ b))
def repL (a : List α) (n : Int) : List α := (List.replicate n.toNat a).flatten
def mulR (a : List α) (b : Int) : R (List α) := R.gd (-(2 ^ 63) ≤ b ∧ b < 2 ^ 63 ∧ a.length * b.toNat ≤ lineN) (.ok (repL a b))
def appR (c : List α) (v : α) : R (List α) := R.gd (c.length < lineN) (.ok (c ++ [v]))
def sgsR (a : List Nat) : R (List (List Nat)) := R.gd (a.length ≤ lineN) (.ok (sgs a))
def srt (k : α → D) (xs : List α) : List α := xs.mergeSort (leF k)
def srtR (k : α → D) (xs : List α) : R (List α) := R.gd (okSort (xs.map k) = true) (.ok (srt k xs))
def srtSR (a : List Nat) : R (List (List Nat)) := R.gd (a.length ≤ lineN) (.ok (sgs (srtC a)))
def lowOk (a : List Nat) : Prop := a.length ≤ 5592405 ∧ (a.all fun c => decide (c < 128)) = true
instance {a} : Decidable (lowOk a) := by unfold lowOk; infer_instance
def lowR (a : List Nat) : R (List Nat) := R.gd (lowOk a) (.ok (a.map loC))
def uppR (a : List Nat) : R (List Nat) := R.gd (lowOk a) (.ok (a.map upC))
def joinR (o : List Nat) (a : List (List Nat)) : R (List Nat) := R.gd ((a.map List.length).sum + a.length * o.length ≤ lineN) (.ok (joinL o a))
/-! whole numbers -/
theorem o_add {fl : Bool} : Op2T x (dAdd fl) D.int D.int D.int (fun a b => .ok (a + b)) := fun a b μ d1 d2 v1 v2 => by rw [vi v1, vi v2]; exact rfl
theorem o_sub : Op2T x dSub D.int D.int D.int (fun a b => .ok (a - b)) := fun a b μ d1 d2 v1 v2 => by rw [vi v1, vi v2]; exact rfl
theorem o_mul {fl : Bool} : Op2T x (dMul fl) D.int D.int D.int imulR := fun a b μ d1 d2 v1 v2 => by rw [vi v1, vi v2]; exact Sim.gd fun h => if_pos h
theorem o_div : Op2T x dDiv D.int D.int D.int idivR := fun a b μ d1 d2 v1 v2 => by rw [vi v1, vi v2]; exact Sim.gd fun h => if_pos h
theorem o_mod : Op2T x dMod D.int D.int D.int imodR := fun a b μ d1 d2 v1 v2 => by rw [vi v1, vi v2]; exact Sim.gd fun h => if_pos h
theorem o_neg : Op1T x dNeg D.int D.int (fun a => .ok (-a)) := fun a μ d1 v1 => by rw [vi v1]; exact rfl
theorem o_iadd : Op2T x dIAdd D.int D.int D.int (fun a b => .ok (a + b)) := fun a b μ d1 d2 v1 v2 => by rw [vi v1, vi v2]; exact rfl
theorem o_isub : Op2T x dISub D.int D.int D.int (fun a b => .ok (a - b)) := fun a b μ d1 d2 v1 v2 => by rw [vi v1, vi v2]; exact rfl
theorem o_iaddS : Op2T x dIAdd D.str D.str D.str addR := fun a b μ d1 d2 v1 v2 => by rw [vs v1, vs v2]; exact Sim.gd fun h => if_pos h
theorem o_lt : Op2T x dLt D.int D.int D.bl (fun a b => .ok (decide (a < b))) := fun a b μ d1 d2 v1 v2 => by rw [vi v1, vi v2]; exact rfl
theorem o_le : Op2T x dLe D.int D.int D.bl (fun a b => .ok (decide (a ≤ b))) := fun a b μ d1 d2 v1 v2 => by rw [vi v1, vi v2]; exact rfl
theorem o_gt : Op2T x dGt D.int D.int D.bl (fun a b => .ok (decide (b < a))) := fun a b μ d1 d2 v1 v2 => by rw [vi v1, vi v2]; exact rfl
theorem o_ge : Op2T x dGe D.int D.int D.bl (fun a b => .ok (decide (b ≤ a))) := fun a b μ d1 d2 v1 v2 => by rw [vi v1, vi v2]; exact rfl
theorem o_ltS : Op2T x dLt D.str D.str D.bl (fun a b => .ok (decide (a < b))) := fun a b μ d1 d2 v1 v2 => by rw [vs v1, vs v2]; exact rfl
/-- by a number of the text -/
theorem td_mulK {fl : Bool} {γ : Sls T} {ma : M} {ga : T → R Int} {c : Int} (h : TD x γ ma D.int ga) (hc : -(2 ^ 64) < c ∧ c < 2 ^ 64 := by decide) : TD x γ (cB (dMul fl) ma (cK (.int c))) D.int (fun s => (ga s).bind fun a => .ok (a * c)) := fun s e μ E => Sim.bind.mpr ((h s e μ E).imp (fun a q => by
  show cB (dMul fl) ma (cK (.int c)) e μ = _
  unfold cB; rw [q]; exact if_pos (.inr (.inl hc))) fun _ _ q => by unfold cB; rw [q]; rfl)
theorem td_kMul {fl : Bool} {γ : Sls T} {ma : M} {ga : T → R Int} {c : Int} (h : TD x γ ma D.int ga) (hc : -(2 ^ 64) < c ∧ c < 2 ^ 64 := by decide) : TD x γ (cB (dMul fl) (cK (.int c)) ma) D.int (fun s => (ga s).bind fun a => .ok (c * a)) := fun s e μ E => Sim.bind.mpr ((h s e μ E).imp (fun a q => by
  show cB (dMul fl) (cK (.int c)) ma e μ = _
  have : cB (dMul fl) (cK (.int c)) ma e μ = (ma e μ).bind fun y => dMul fl (.int c) y.1 y.2 := rfl
  rw [this, q]; exact if_pos (.inl hc)) fun c' ds q => by
  have : cB (dMul fl) (cK (.int c)) ma e μ = (ma e μ).bind fun y => dMul fl (.int c) y.1 y.2 := rfl
  rw [this, q]; rfl)
theorem td_divK {γ : Sls T} {ma : M} {ga : T → R Int} {c : Int} (h : TD x γ ma D.int ga) (hc : okDiv c := by decide) : TD x γ (cB dDiv ma (cK (.int c))) D.int (fun s => (ga s).bind fun a => .ok (a / c)) := fun s e μ E => Sim.bind.mpr ((h s e μ E).imp (fun a q => by
  show cB dDiv ma (cK (.int c)) e μ = _
  unfold cB; rw [q]; exact if_pos hc) fun _ _ q => by unfold cB; rw [q]; rfl)
theorem td_modK {γ : Sls T} {ma : M} {ga : T → R Int} {c : Int} (h : TD x γ ma D.int ga) (hc : 0 < c := by decide) : TD x γ (cB dMod ma (cK (.int c))) D.int (fun s => (ga s).bind fun a => .ok (a % c)) := fun s e μ E => Sim.bind.mpr ((h s e μ E).imp (fun a q => by
  show cB dMod ma (cK (.int c)) e μ = _
  unfold cB; rw [q]; exact if_pos hc) fun _ _ q => by unfold cB; rw [q]; rfl)
/-- a power of numbers of the text -/
theorem pow_eq {a b : Int} {e : Ev} (h : 0 ≤ b ∧ b ≤ 1000000 ∧ a.natAbs < 2 ^ 64) : cB dPow (cK (.int a)) (cK (.int b)) e μ = .ok (.int (a ^ b.toNat), μ) := if_pos h
theorem td_pow {γ : Sls T} {a b c : Int} (h : 0 ≤ b ∧ b ≤ 1000000 ∧ a.natAbs < 2 ^ 64 := by decide) (hc : a ^ b.toNat = c := by decide +kernel) : TD x γ (cB dPow (cK (.int a)) (cK (.int b))) D.int (fun _ => .ok c) := fun s e μ E => by
  show _ = _
  rw [pow_eq h, hc]
theorem td_divP {γ : Sls T} {ma mp : M} {ga : T → R Int} {c : Int} (h : TD x γ ma D.int ga) (hp : TD x γ mp D.int (fun _ => .ok c)) (hc : okDiv c := by decide) : TD x γ (cB dDiv ma mp) D.int (fun s => (ga s).bind fun a => .ok (a / c)) := fun s e μ E => Sim.bind.mpr ((h s e μ E).imp (fun a q => by
  show cB dDiv ma mp e μ = _
  have q2 : mp e μ = .ok (.int c, μ) := hp s e μ E
  unfold cB; rw [q]; simp only [Res.bind, q2]; exact if_pos hc) fun _ _ q => by unfold cB; rw [q]; rfl)
theorem td_modP {γ : Sls T} {ma mp : M} {ga : T → R Int} {c : Int} (h : TD x γ ma D.int ga) (hp : TD x γ mp D.int (fun _ => .ok c)) (hc : 0 < c := by decide) : TD x γ (cB dMod ma mp) D.int (fun s => (ga s).bind fun a => .ok (a % c)) := fun s e μ E => Sim.bind.mpr ((h s e μ E).imp (fun a q => by
  show cB dMod ma mp e μ = _
  have q2 : mp e μ = .ok (.int c, μ) := hp s e μ E
  unfold cB; rw [q]; simp only [Res.bind, q2]; exact if_pos hc) fun _ _ q => by unfold cB; rw [q]; rfl)
/-! texts, lists -/
theorem o_addS {fl : Bool} : Op2T x (dAdd fl) D.str D.str D.str addR := fun a b μ d1 d2 v1 v2 => by rw [vs v1, vs v2]; exact Sim.gd fun h => if_pos h
theorem o_mulS {fl : Bool} : Op2T x (dMul fl) D.str D.int D.str mulR := fun a b μ d1 d2 v1 v2 => by rw [vs v1, vi v2]; exact Sim.gd fun h => if_pos h
theorem o_addT {fl : Bool} : Op2T x (dAdd fl) (kTp k) (kTp k) (kTp k) addR := fun a b μ d1 d2 v1 v2 => by
  rw [v1.eq rfl, v2.eq rfl]
  refine Sim.gd fun h => ?_
  show (if (a.map k).length + (b.map k).length ≤ lineN then Res.ok (D.tup (a.map k ++ b.map k), μ) else _) = _
  rw [if_pos (by simpa using h), ← List.map_append]; rfl
theorem add_lof {fl : Bool} {d1 d2 : D} {xs ys : List D} (h1 : lofT d1 μ = some xs) (h2 : lofT d2 μ = some ys) (n1 : ∀ z, d1 ≠ .int z) (n2 : ∀ z, d1 ≠ .str z) (n3 : ∀ z, d1 ≠ .tup z) (h : xs.length + ys.length ≤ lineN) : dAdd fl d1 d2 μ = .ok (mkL fl (xs ++ ys) μ) := by
  unfold dAdd
  split
  · exact absurd rfl (n1 _)
  · exact absurd rfl (n1 _)
  · exact absurd rfl (n2 _)
  · exact absurd rfl (n3 _)
  · rw [h1, h2]
    exact if_pos h
theorem o_addL : Op2T x (dAdd false) (kLs k) (kLs k) (kLs k) addR := fun a b μ d1 d2 v1 v2 => by
  obtain ⟨_, n2, n3, n1, h1⟩ := lof_vw v1
  obtain ⟨_, _, _, _, h2⟩ := lof_vw v2
  refine Sim.gd fun h => ?_
  rw [add_lof h1 h2 n1 n2 n3 (by simpa using h), ← List.map_append]; rfl
theorem tc_addL {γ : Sls T} {ma mb : M} {ga gb : T → R (List α)} (ha : TE x γ ma (kLs k) ga) (hb : TE x γ mb (kLs k) gb) : TC x γ (cB (dAdd true) ma mb) (kLs k) (fun s => (ga s).bind fun a => (gb s).bind fun b => addR a b) := fun s e μ E => by
  refine Sim.bind.mpr ((ha s e μ E).imp (fun a ⟨d1, q1, v1⟩ => ?_) fun c ds q => by unfold cB; rw [q]; rfl)
  refine Sim.bind.mpr ((hb s e μ E).imp (fun b ⟨d2, q2, v2⟩ => ?_) fun c ds q => by unfold cB; rw [q1]; show (mb e μ).bind _ = _; rw [q]; rfl)
  have e1 : cB (dAdd true) ma mb e μ = dAdd true d1 d2 μ := by
    unfold cB; rw [q1]; show (mb e μ).bind _ = _; rw [q2]; rfl
  rw [e1]
  obtain ⟨_, n2, n3, n1, h1⟩ := lof_vw v1
  obtain ⟨_, _, _, _, h2⟩ := lof_vw v2
  refine Sim.gd fun h => ?_
  rw [add_lof h1 h2 n1 n2 n3 (by simpa using h), ← List.map_append]; rfl
theorem mul_lof {fl : Bool} {d1 : D} {xs : List D} {n : Int} (h1 : lofT d1 μ = some xs) (n1 : ∀ z, d1 ≠ .int z) (n2 : ∀ z, d1 ≠ .str z) (n3 : ∀ z, d1 ≠ .tup z) (h : -(2 ^ 63) ≤ n ∧ n < 2 ^ 63 ∧ xs.length * n.toNat ≤ lineN) : dMul fl d1 (.int n) μ = .ok (mkL fl (List.replicate n.toNat xs).flatten μ) := by
  cases d1 with
  | int z => exact absurd rfl (n1 _)
  | str z => exact absurd rfl (n2 _)
  | tup z => exact absurd rfl (n3 _)
  | lst z => cases h1; exact if_pos h
  | ref z =>
    show (match lofT (.ref z) μ with | some xs => _ | _ => _) = _
    rw [h1]
    exact if_pos h
  | non => cases h1
  | bl => cases h1
  | scr => cases h1
  | dic => cases h1
  | dit => cases h1
  | obj => cases h1
theorem o_mulL : Op2T x (dMul false) (kLs k) D.int (kLs k) mulR := fun a b μ d1 d2 v1 v2 => by
  obtain ⟨_, n2, n3, n1, h1⟩ := lof_vw v1
  rw [vi v2]
  refine Sim.gd fun h => ?_
  rw [mul_lof h1 n1 n2 n3 (by simpa using h)]
  show Res.ok (D.lst _, μ) = Res.ok (D.lst _, μ)
  unfold repL
  rw [List.map_flatten, List.map_replicate]
/-! places -/
def atR (xs : List α) (i : Int) : R α := match atI xs i with
  | some a => .ok a
  | none => .no
theorem atI_map (xs : List α) (i : Int) : atI (xs.map k) i = (atI xs i).map k := by
  unfold atI
  rw [List.length_map]
  cases ixN xs.length i with
  | none => rfl
  | some j => simp
theorem o_ixS : Op2T x dIx D.str D.int D.str (fun a b => (atR a b).bind fun c => .ok [c]) := fun a b μ d1 d2 v1 v2 => by
  rw [vs v1, vi v2]
  dsimp only
  unfold atR
  cases h : atI a b with
  | none => trivial
  | some c => show (match atI a b with | some c => _ | none => _) = _; rw [h]
theorem o_ixT : Op2T x dIx (kTp k) D.int k atR := fun a b μ d1 d2 v1 v2 => by
  rw [v1.eq rfl, vi v2]
  unfold atR
  cases h : atI a b with
  | none => trivial
  | some c => show (match atI (a.map k) b with | some c => _ | none => _) = _; rw [atI_map, h]; rfl
theorem o_ixC : Op2T x dIx kScr D.int D.int atR := fun a b μ d1 d2 v1 v2 => by
  rw [v1.eq rfl, vi v2]
  unfold atR
  cases h : atI a b with
  | none => trivial
  | some c => show (match atI (a.map D.int) b with | some c => _ | none => _) = _; rw [atI_map, h]; rfl
theorem ix_lof {xs : List D} {i : Int} (h1 : lof d μ = some xs) (n2 : ∀ z, d ≠ .str z) (n3 : ∀ z, d ≠ .tup z) : dIx d (.int i) μ = (match atI xs i with | some d => .ok (d, μ) | none => .no) := by
  unfold dIx
  split
  · exact absurd rfl (n2 _)
  · exact absurd rfl (n3 _)
  · rw [h1]
    try rfl
theorem o_ixL : Op2T x dIx (kLs k) D.int k atR := fun a b μ d1 d2 v1 v2 => by
  obtain ⟨h1, n2, n3, _, _⟩ := lof_vw v1
  rw [vi v2, ix_lof h1 n2 n3, atI_map]
  unfold atR
  cases h : atI a b with
  | none => trivial
  | some c => exact rfl
/-! len -/
theorem vw1 {ds : List D} {a : D} (h : VwL μ ds [a]) : ∃ d, ds = [d] ∧ Vw μ d a := by
  match ds, h with
  | [d], h => exact ⟨d, rfl, h.1⟩
theorem vw2 {ds : List D} {a b : D} (h : VwL μ ds [a, b]) : ∃ d e, ds = [d, e] ∧ Vw μ d a ∧ Vw μ e b := by
  match ds, h with
  | [d, e], h => exact ⟨d, e, rfl, h.1, h.2.1⟩
theorem o_lenS : OpNT x dLen (fun a : List Nat × Unit => [D.str a.1]) D.int (fun a => .ok (a.1.length : Int)) := fun a μ ds v => by
  obtain ⟨d, rfl, w⟩ := vw1 v
  have v := w
  rw [vs v]; exact rfl
theorem o_lenT : OpNT x dLen (fun a : List α × Unit => [kTp k a.1]) D.int (fun a => .ok (a.1.length : Int)) := fun a μ ds v => by
  obtain ⟨d, rfl, w⟩ := vw1 v
  have v := w
  rw [v.eq rfl]
  show Res.ok (D.int ((a.1.map k).length : Int), μ) = _
  rw [List.length_map]
theorem o_lenC : OpNT x dLen (fun a : List Int × Unit => [kScr a.1]) D.int (fun a => .ok (a.1.length : Int)) := fun a μ ds v => by
  obtain ⟨d, rfl, w⟩ := vw1 v
  have v := w
  rw [v.eq rfl]
  show Res.ok (D.int ((a.1.map D.int).length : Int), μ) = _
  rw [List.length_map]
theorem len_lof {xs : List D} (h1 : lof d μ = some xs) (n2 : ∀ z, d ≠ .str z) (n3 : ∀ z, d ≠ .tup z) : dLen [d] μ = .ok (.int xs.length, μ) := by
  unfold dLen
  dsimp only
  split
  · exact absurd rfl (n2 _)
  · exact absurd rfl (n3 _)
  · rw [h1]
theorem o_lenL : OpNT x dLen (fun a : List α × Unit => [kLs k a.1]) D.int (fun a => .ok (a.1.length : Int)) := fun a μ ds v => by
  obtain ⟨d, rfl, w⟩ := vw1 v
  have v := w
  obtain ⟨h1, n2, n3, _, _⟩ := lof_vw v
  show dLen [d] μ = _
  rw [len_lof h1 n2 n3, List.length_map]
/-! tuple, list, sorted, .. -/
theorem o_tupleL : OpNT x dTuple (fun a : List α × Unit => [kLs k a.1]) (kTp k) (fun a => .ok a.1) := fun a μ ds v => by
  obtain ⟨d, rfl, w⟩ := vw1 v
  have v := w
  obtain ⟨h1, n2, n3, _, _⟩ := lof_vw v
  show dTuple [d] μ = _
  unfold dTuple
  dsimp only
  split
  · exact absurd rfl (n3 _)
  · rw [h1]; rfl
theorem list_lof {fl : Bool} {xs : List D} (h1 : lof d μ = some xs) (n2 : ∀ z, d ≠ .str z) (n3 : ∀ z, d ≠ .tup z) (hd : dof d μ = none) : dListA fl [d] μ = .ok (mkL fl xs μ) := by
  have h2 : dList fl [d] μ = .ok (mkL fl xs μ) := by
    unfold dList
    dsimp only
    split
    · exact absurd rfl (n3 _)
    · rw [h1]
  unfold dListA
  split
  · rename_i q; cases q; exact absurd rfl (n2 _)
  · rename_i q
    cases q
    rw [hd]; exact h2
  · rename_i q
    exact (q d rfl).elim
theorem dof_vw {a : List α} (v : Vw μ d (kLs k a)) : dof d μ = none := by
  rcases v with rfl | ⟨n, rfl, h, _⟩
  · rfl
  · simp only [dof, h, kLs]
theorem o_listL : OpNT x (dListA false) (fun a : List α × Unit => [kLs k a.1]) (kLs k) (fun a => .ok a.1) := fun a μ ds v => by
  obtain ⟨d, rfl, w⟩ := vw1 v
  have v := w
  obtain ⟨h1, n2, n3, _, _⟩ := lof_vw v
  exact list_lof h1 n2 n3 (dof_vw v)
theorem o_listLc : OpNC x (dListA true) (fun a : List α × Unit => [kLs k a.1]) (kLs k) (fun a => .ok a.1) := fun a μ ds v => by
  obtain ⟨d, rfl, w⟩ := vw1 v
  have v := w
  obtain ⟨h1, n2, n3, _, _⟩ := lof_vw v
  exact list_lof h1 n2 n3 (dof_vw v)
theorem o_listT {fl : Bool} : dListA fl [D.tup xs] μ = .ok (mkL fl xs μ) := rfl
theorem o_listTp : OpNT x (dListA false) (fun a : List α × Unit => [kTp k a.1]) (kLs k) (fun a => .ok a.1) := fun a μ ds v => by
  obtain ⟨d, rfl, w⟩ := vw1 v
  have v := w
  rw [v.eq rfl]; exact rfl
theorem o_listTc : OpNC x (dListA true) (fun a : List α × Unit => [kTp k a.1]) (kLs k) (fun a => .ok a.1) := fun a μ ds v => by
  obtain ⟨d, rfl, w⟩ := vw1 v
  have v := w
  rw [v.eq rfl]; exact rfl
theorem o_listS : OpNT x (dListA false) (fun a : List Nat × Unit => [D.str a.1]) (kLs D.str) (fun a => sgsR a.1) := fun a μ ds v => by
  obtain ⟨d, rfl, w⟩ := vw1 v
  have v := w
  rw [vs v]
  refine Sim.gd fun h => ?_
  show (if a.1.length ≤ lineN then Res.ok (D.lst (chL a.1), μ) else _) = _
  rw [if_pos h, chL_sgs]; rfl
theorem o_listSc : OpNC x (dListA true) (fun a : List Nat × Unit => [D.str a.1]) (kLs D.str) (fun a => sgsR a.1) := fun a μ ds v => by
  obtain ⟨d, rfl, w⟩ := vw1 v
  have v := w
  rw [vs v]
  refine Sim.gd fun h => ?_
  show (if a.1.length ≤ lineN then Res.ok (D.ref μ.length, μ ++ [D.lst (chL a.1)]) else _) = _
  rw [if_pos h, chL_sgs]; rfl
theorem sort_lof {fl : Bool} {a : List α} (v : Vw μ d (kLs k a)) (h : okSort (a.map k) = true) : dSortA fl [d] μ = .ok (mkL fl ((srt k a).map k) μ) := by
  have e0 := d_sortAp (f := k) (fl := fl) (L := a) (μ := μ) h
  rcases v with rfl | ⟨n, rfl, q, _⟩
  · exact e0
  · have e1 : dSortA fl [.lst (a.map k)] μ = .ok (mkL fl ((srt k a).map k) μ) := e0
    rw [← e1]
    show (match dof (.ref n) μ with | some (.dic kvs) => _ | _ => dSortL fl [.ref n] μ) = _
    have h1 : dof (.ref n) μ = none := by simp only [dof, q, kLs]
    rw [h1]
    show dSortL fl [.ref n] μ = dSortL fl [.lst (a.map k)] μ
    have h2 : lof (.ref n) μ = some (a.map k) := by simp only [lof, q, kLs]
    show (match lof (.ref n) μ with | some xs => _ | none => _) = _
    rw [h2]; rfl
theorem o_sortL : OpNT x (dSortA false) (fun a : List α × Unit => [kLs k a.1]) (kLs k) (fun a => srtR k a.1) := fun a μ ds v => by
  obtain ⟨d, rfl, w⟩ := vw1 v
  have v := w
  exact Sim.gd fun h => sort_lof v h
theorem o_sortLc : OpNC x (dSortA true) (fun a : List α × Unit => [kLs k a.1]) (kLs k) (fun a => srtR k a.1) := fun a μ ds v => by
  obtain ⟨d, rfl, w⟩ := vw1 v
  have v := w
  exact Sim.gd fun h => sort_lof v h
theorem o_sortS : OpNT x (dSortA false) (fun a : List Nat × Unit => [D.str a.1]) (kLs D.str) (fun a => srtSR a.1) := fun a μ ds v => by
  obtain ⟨d, rfl, w⟩ := vw1 v
  have v := w
  rw [vs v]
  refine Sim.gd fun h => ?_
  show (if a.1.length ≤ lineN then Res.ok (D.lst (chL (srtC a.1)), μ) else _) = _
  rw [if_pos h, chL_sgs]; rfl
theorem o_sortSc : OpNC x (dSortA true) (fun a : List Nat × Unit => [D.str a.1]) (kLs D.str) (fun a => srtSR a.1) := fun a μ ds v => by
  obtain ⟨d, rfl, w⟩ := vw1 v
  have v := w
  rw [vs v]
  refine Sim.gd fun h => ?_
  show (if a.1.length ≤ lineN then Res.ok (D.ref μ.length, μ ++ [D.lst (chL (srtC a.1))]) else _) = _
  rw [if_pos h, chL_sgs]; rfl
theorem bools_lof {f : List Bool → Bool} {a : List Bool} (v : Vw μ d (kLs D.bl a)) : dBools f [d] μ = .ok (.bl (f a), μ) := by
  obtain ⟨h1, _⟩ := lof_vw v
  show (match lof d μ with | some xs => _ | none => _) = _
  rw [h1]
  show (match bsOf (a.map D.bl) with | some bs => _ | none => _) = _
  rw [bsOf_map]
theorem o_all : OpNT x (dBools fun bs => bs.all id) (fun a : List Bool × Unit => [kLs D.bl a.1]) D.bl (fun a => .ok (a.1.all id)) := fun a μ ds v => by
  obtain ⟨d, rfl, w⟩ := vw1 v
  have v := w
  exact bools_lof v
theorem o_any : OpNT x (dBools fun bs => bs.any id) (fun a : List Bool × Unit => [kLs D.bl a.1]) D.bl (fun a => .ok (a.1.any id)) := fun a μ ds v => by
  obtain ⟨d, rfl, w⟩ := vw1 v
  have v := w
  exact bools_lof v
theorem o_sum : OpNT x dSum (fun a : List Int × Unit => [kLs D.int a.1]) D.int (fun a => .ok a.1.sum) := fun a μ ds v => by
  obtain ⟨d, rfl, w⟩ := vw1 v
  have v := w
  obtain ⟨h1, _⟩ := lof_vw v
  show dSum [d] μ = _
  unfold dSum
  dsimp only
  rw [h1]
  have : ∀ ns : List Int, intsOf (ns.map D.int) = some ns := fun ns => by
    induction ns with
    | nil => rfl
    | cons a r ih => simp only [List.map_cons, intsOf, ih, Option.map_some]
  show (match intsOf (a.1.map D.int) with | some bs => _ | none => _) = _
  rw [this]
theorem o_intB : OpNT x dInt (fun a : Bool × Unit => [D.bl a.1]) D.int (fun a => .ok (if a.1 then 1 else 0)) := fun a μ ds v => by
  obtain ⟨d, rfl, w⟩ := vw1 v
  have v := w
  rw [vb v]; exact rfl
theorem o_max : OpNT x dMax2 (fun a : Int × Int × Unit => [D.int a.1, D.int a.2.1]) D.int (fun a => .ok (max a.1 a.2.1)) := fun a μ ds v => by
  obtain ⟨d, e, rfl, v', w⟩ := vw2 v
  have v := v'
  rw [vi v, vi w]; exact rfl
theorem o_min : OpNT x dMin2 (fun a : Int × Int × Unit => [D.int a.1, D.int a.2.1]) D.int (fun a => .ok (min a.1 a.2.1)) := fun a μ ds v => by
  obtain ⟨d, e, rfl, v', w⟩ := vw2 v
  have v := v'
  rw [vi v, vi w]; exact rfl
/-! == and in -/
class Eqk {α : Type} [DecidableEq α] (k : α → D) (n : outParam Dt) : Prop where
  pd : ∀ a m, n.n ≤ m → pd m (k a) = true
  eq : ∀ a b, PyData.eqv (toP (k a)) (toP (k b)) = decide (a = b)
  il : ∀ a μ m, n.n ≤ m → inlE μ m (k a) = some (k a)
variable {n n2 n3 : Dt}
theorem ile_z {P : Nat → Prop} (h0 : P 0) (h : ∀ j, P (j + 1)) (m : Nat) : P m := by cases m with
  | zero => exact h0
  | succ m => exact h m
instance : Eqk D.int .o := ⟨fun a m _ => pd_int, fun a b => by simp only [toP, PyData.eqv]; rfl, fun a μ m _ => ile_z (P := fun m => inlE μ m (.int a) = some (.int a)) rfl (fun _ => rfl) m⟩
instance : Eqk D.str .o := ⟨fun a m _ => pd_str, fun a b => beqD_str, fun a μ m _ => ile_z (P := fun m => inlE μ m (.str a) = some (.str a)) rfl (fun _ => rfl) m⟩
instance : Eqk D.bl .o := ⟨fun a m _ => pd_bl, fun a b => by cases a <;> cases b <;> rfl, fun a μ m _ => ile_z (P := fun m => inlE μ m (.bl a) = some (.bl a)) rfl (fun _ => rfl) m⟩
theorem eqvAll_map [DecidableEq α] (h : ∀ a b, PyData.eqv (toP (k a)) (toP (k b)) = decide (a = b)) : ∀ xs ys : List α, PyData.eqvAll (toPs (xs.map k)) (toPs (ys.map k)) = decide (xs = ys)
  | [], [] => rfl
  | [], y :: ys => rfl
  | x :: xs, [] => rfl
  | x :: xs, y :: ys => by
    simp only [List.map_cons, toPs, PyData.eqvAll, h, eqvAll_map h xs ys, List.cons.injEq, Bool.decide_and]
theorem mapOE {xs : List α} {m : Nat} (h : ∀ a, inlE μ m (k a) = some (k a)) : mapO (inlE μ m) (xs.map k) = some (xs.map k) := mapO_id fun z hz => by
  obtain ⟨a, _, rfl⟩ := List.mem_map.mp hz
  exact h a
instance [DecidableEq α] [Eqk k n] : Eqk (kTp k) (.s n) := ⟨fun a m h => by
  obtain ⟨j, rfl⟩ : ∃ j, m = j + 1 := ⟨m - 1, by simp only [Dt.n] at h; omega⟩
  exact pds_map fun b _ => Eqk.pd b j (by walk_at "dt"), fun a b => eqvAll_map (fun a b => Eqk.eq a b) a b, fun a μ m h => by
  obtain ⟨j, rfl⟩ : ∃ j, m = j + 1 := ⟨m - 1, by simp only [Dt.n] at h; omega⟩
  show (mapO (inlE μ j) (a.map k)).map D.tup = _
  rw [mapOE fun b => Eqk.il b μ j (by walk_at "dt")]; rfl⟩
instance [DecidableEq α] [Eqk k n] : Eqk (kLs k) (.s n) := ⟨fun a m h => by
  obtain ⟨j, rfl⟩ : ∃ j, m = j + 1 := ⟨m - 1, by simp only [Dt.n] at h; omega⟩
  exact pds_map fun b _ => Eqk.pd b j (by walk_at "dt"), fun a b => eqvAll_map (fun a b => Eqk.eq a b) a b, fun a μ m h => by
  obtain ⟨j, rfl⟩ : ∃ j, m = j + 1 := ⟨m - 1, by simp only [Dt.n] at h; omega⟩
  show (mapO (inlE μ j) (a.map k)).map D.lst = _
  rw [mapOE fun b => Eqk.il b μ j (by walk_at "dt")]; rfl⟩
instance : Eqk kNon .o := ⟨fun a m _ => pd_non, fun a b => rfl, fun a μ m _ => ile_z (P := fun m => inlE μ m .non = some .non) rfl (fun _ => rfl) m⟩
instance : Eqk kT0 .o := ⟨fun a m h => by
  obtain ⟨j, rfl⟩ : ∃ j, m = j + 1 := ⟨m - 1, by simp only [Dt.n] at h; omega⟩
  exact pds_nil (k := j), fun a b => rfl, fun a μ m h => by
  obtain ⟨j, rfl⟩ : ∃ j, m = j + 1 := ⟨m - 1, by simp only [Dt.n] at h; omega⟩
  rfl⟩
theorem pds2 {m : Nat} {d : D} {ds : List D} (h : pd m d = true) (h2 : pds m ds = true) : pds m (d :: ds) = true := by rw [pds_cons, h, h2]; rfl
theorem inlE_tup {ds : List D} {j : Nat} (h : mapO (inlE μ j) ds = some ds) : inlE μ (j + 1) (.tup ds) = some (.tup ds) := by
  show (mapO (inlE μ j) ds).map D.tup = _
  rw [h]; rfl
instance [DecidableEq α] [Eqk k n] : Eqk (kT1 k) (.s n) := ⟨fun a m h => by
  obtain ⟨j, rfl⟩ : ∃ j, m = j + 1 := ⟨m - 1, by simp only [Dt.n] at h; omega⟩
  exact pds2 (Eqk.pd a j (by walk_at "dt")) pds_nil, fun a b => by simp only [kT1, toP, toPs, PyData.eqv, PyData.eqvAll, Eqk.eq, Bool.and_true], fun a μ m h => by
  obtain ⟨j, rfl⟩ : ∃ j, m = j + 1 := ⟨m - 1, by simp only [Dt.n] at h; omega⟩
  exact inlE_tup (mapO_cons (Eqk.il a μ j (by walk_at "dt")) mapO_nil)⟩
instance [DecidableEq α] [DecidableEq β] [Eqk k n] [Eqk l n2] : Eqk (kT2 k l) (.s (.m n n2)) := ⟨fun a m h => by
  obtain ⟨j, rfl⟩ : ∃ j, m = j + 1 := ⟨m - 1, by simp only [Dt.n] at h; omega⟩
  exact pds2 (Eqk.pd a.1 j (by walk_at "dt")) (pds2 (Eqk.pd a.2 j (by walk_at "dt")) pds_nil), fun a b => by
  obtain ⟨a1, a2⟩ := a; obtain ⟨b1, b2⟩ := b
  simp only [kT2, toP, toPs, PyData.eqv, PyData.eqvAll, Eqk.eq, Bool.and_true, Prod.mk.injEq, Bool.decide_and], fun a μ m h => by
  obtain ⟨j, rfl⟩ : ∃ j, m = j + 1 := ⟨m - 1, by simp only [Dt.n] at h; omega⟩
  exact inlE_tup (mapO_cons (Eqk.il a.1 μ j (by walk_at "dt")) (mapO_cons (Eqk.il a.2 μ j (by walk_at "dt")) mapO_nil))⟩
variable {m : δ → D}
instance [DecidableEq α] [DecidableEq β] [DecidableEq δ] [Eqk k n] [Eqk l n2] [Eqk m n3] : Eqk (kT3 k l m) (.s (.m n (.m n2 n3))) := ⟨fun a m h => by
  obtain ⟨j, rfl⟩ : ∃ j, m = j + 1 := ⟨m - 1, by simp only [Dt.n] at h; omega⟩
  exact pds2 (Eqk.pd a.1 j (by walk_at "dt")) (pds2 (Eqk.pd a.2.1 j (by walk_at "dt")) (pds2 (Eqk.pd a.2.2 j (by walk_at "dt")) pds_nil)), fun a b => by
  obtain ⟨a1, a2, a3⟩ := a; obtain ⟨b1, b2, b3⟩ := b
  simp only [kT3, toP, toPs, PyData.eqv, PyData.eqvAll, Eqk.eq, Bool.and_true, Prod.mk.injEq, Bool.decide_and], fun a μ m h => by
  obtain ⟨j, rfl⟩ : ∃ j, m = j + 1 := ⟨m - 1, by simp only [Dt.n] at h; omega⟩
  exact inlE_tup (mapO_cons (Eqk.il a.1 μ j (by walk_at "dt")) (mapO_cons (Eqk.il a.2.1 μ j (by walk_at "dt")) (mapO_cons (Eqk.il a.2.2 μ j (by walk_at "dt")) mapO_nil)))⟩
instance [DecidableEq α] [DecidableEq β] [DecidableEq δ] {ε : Type} [DecidableEq ε] {o : ε → D} {n4 : Dt} [Eqk k n] [Eqk l n2] [Eqk m n3] [Eqk o n4] : Eqk (kT4 k l m o) (.s (.m n (.m n2 (.m n3 n4)))) := ⟨fun a m h => by
  obtain ⟨j, rfl⟩ : ∃ j, m = j + 1 := ⟨m - 1, by simp only [Dt.n] at h; omega⟩
  exact pds2 (Eqk.pd a.1 j (by walk_at "dt")) (pds2 (Eqk.pd a.2.1 j (by walk_at "dt")) (pds2 (Eqk.pd a.2.2.1 j (by walk_at "dt")) (pds2 (Eqk.pd a.2.2.2 j (by walk_at "dt")) pds_nil))), fun a b => by
  obtain ⟨a1, a2, a3, a4⟩ := a; obtain ⟨b1, b2, b3, b4⟩ := b
  simp only [kT4, toP, toPs, PyData.eqv, PyData.eqvAll, Eqk.eq, Bool.and_true, Prod.mk.injEq, Bool.decide_and], fun a μ m h => by
  obtain ⟨j, rfl⟩ : ∃ j, m = j + 1 := ⟨m - 1, by simp only [Dt.n] at h; omega⟩
  exact inlE_tup (mapO_cons (Eqk.il a.1 μ j (by walk_at "dt")) (mapO_cons (Eqk.il a.2.1 μ j (by walk_at "dt")) (mapO_cons (Eqk.il a.2.2.1 μ j (by walk_at "dt")) (mapO_cons (Eqk.il a.2.2.2 μ j (by walk_at "dt")) mapO_nil))))⟩
abbrev Le20 (n : Dt) : Prop := LeD n cap
theorem le20 {n : Dt} [h : Le20 n] : n.n ≤ 18 := Nat.le_trans h.le (by decide)
/-- a value as == sees it -/
theorem vE_vw [DecidableEq α] [Eqk k n] [Le20 n] {a : α} (hc : ∀ a, isCl (k a) = true → ∃ ds, k a = .lst ds) (v : Vw μ d (k a)) : vE μ d = some (k a) := by
  rcases v with rfl | ⟨j, rfl, h, c⟩
  · exact vE_pd (Eqk.pd a 20 (by have := le20 (n := n); omega))
  · obtain ⟨ds, e⟩ := hc a c
    have hil := Eqk.il (k := k) a μ 19 (by have := le20 (n := n); omega)
    have hil2 := Eqk.il (k := k) a μ 20 (by have := le20 (n := n); omega)
    rw [e] at h hil2 ⊢
    unfold vE
    rw [if_neg (by simp [pd])]
    show (match μ[j]? with | some (.lst ds) => (mapO (inlE μ 19) ds).map D.lst | _ => none) = _
    rw [h]
    exact hil2
/-- .. kinds that are lists or no cells -/
class Lsk {α : Type} (k : α → D) : Prop where
  cl : ∀ a, isCl (k a) = true → ∃ ds, k a = .lst ds
instance : Lsk D.int := ⟨fun a h => by cases h⟩
instance : Lsk D.str := ⟨fun a h => by cases h⟩
instance : Lsk D.bl := ⟨fun a h => by cases h⟩
instance : Lsk kNon := ⟨fun a h => by cases h⟩
instance : Lsk kT0 := ⟨fun a h => by cases h⟩
instance : Lsk (kTp k) := ⟨fun a h => by cases h⟩
instance : Lsk (kT1 k) := ⟨fun a h => by cases h⟩
instance : Lsk (kT2 k l) := ⟨fun a h => by cases h⟩
instance : Lsk (kT3 k l m) := ⟨fun a h => by cases h⟩
instance {ε : Type} {o : ε → D} : Lsk (kT4 k l m o) := ⟨fun a h => by cases h⟩
instance : Lsk (kLs k) := ⟨fun a _ => ⟨_, rfl⟩⟩
theorem o_eq [DecidableEq α] [Eqk k n] [Le20 n] [Lsk k] : Op2T x dEq k k D.bl (fun a b => .ok (decide (a = b))) := fun a b μ d1 d2 v1 v2 => by
  show dEq d1 d2 μ = _
  unfold dEq dEqB
  rw [vE_vw Lsk.cl v1, vE_vw Lsk.cl v2]
  show Res.ok (D.bl (PyData.eqv _ _), μ) = _
  rw [Eqk.eq]
theorem o_ne [DecidableEq α] [Eqk k n] [Le20 n] [Lsk k] : Op2T x dNe k k D.bl (fun a b => .ok (!decide (a = b))) := fun a b μ d1 d2 v1 v2 => by
  show dNe d1 d2 μ = _
  unfold dNe dEqB
  rw [vE_vw Lsk.cl v1, vE_vw Lsk.cl v2]
  show Res.ok (D.bl (!PyData.eqv _ _), μ) = _
  rw [Eqk.eq]
theorem inL_map [DecidableEq α] [Eqk k n] [Le20 n] {a : α} {xs : List α} {d : D} (h : vE μ d = some (k a)) : inL d (xs.map k) μ = some (decide (a ∈ xs)) := by
  unfold inL
  rw [h]
  have : mapO (vE μ) (xs.map k) = some (xs.map k) := mapO_id fun z hz => by
    obtain ⟨b, _, rfl⟩ := List.mem_map.mp hz
    exact vE_pd (Eqk.pd b 20 (by have := le20 (n := n); omega))
  rw [this]
  show some ((xs.map k).any fun z => PyData.eqv (toP z) (toP (k a))) = _
  congr 1
  rw [List.any_map, ← Bool.decide_coe (List.any _ _)]
  congr 1
  rw [List.any_eq_true]
  simp only [Function.comp_apply, Eqk.eq, decide_eq_true_eq]
  exact propext ⟨fun ⟨b, h1, h2⟩ => h2 ▸ h1, fun h => ⟨a, h, rfl⟩⟩
theorem inB_lof {xs : List D} {a : D} (h1 : lof d μ = some xs) (n2 : ∀ z, d ≠ .str z) (n3 : ∀ z, d ≠ .tup z) : dInB a d μ = inL a xs μ := by
  unfold dInB
  split
  · exact absurd rfl (n2 _)
  · exact absurd rfl (n3 _)
  · rw [h1]
theorem o_inL [DecidableEq α] [Eqk k n] [Le20 n] [Lsk k] : Op2T x dIn k (kLs k) D.bl (fun a b => .ok (decide (a ∈ b))) := fun a b μ d1 d2 v1 v2 => by
  obtain ⟨h1, n2, n3, _, _⟩ := lof_vw v2
  show dIn d1 d2 μ = _
  unfold dIn
  rw [inB_lof h1 n2 n3, inL_map (vE_vw Lsk.cl v1)]; rfl
theorem o_notInL [DecidableEq α] [Eqk k n] [Le20 n] [Lsk k] : Op2T x dNotIn k (kLs k) D.bl (fun a b => .ok (!decide (a ∈ b))) := fun a b μ d1 d2 v1 v2 => by
  obtain ⟨h1, n2, n3, _, _⟩ := lof_vw v2
  show dNotIn d1 d2 μ = _
  unfold dNotIn
  rw [inB_lof h1 n2 n3, inL_map (vE_vw Lsk.cl v1)]; rfl
theorem o_inT [DecidableEq α] [Eqk k n] [Le20 n] [Lsk k] : Op2T x dIn k (kTp k) D.bl (fun a b => .ok (decide (a ∈ b))) := fun a b μ d1 d2 v1 v2 => by
  rw [v2.eq rfl]
  show ofB (inL d1 (b.map k) μ) μ = _
  rw [inL_map (vE_vw Lsk.cl v1)]; rfl
theorem o_notInT [DecidableEq α] [Eqk k n] [Le20 n] [Lsk k] : Op2T x dNotIn k (kTp k) D.bl (fun a b => .ok (!decide (a ∈ b))) := fun a b μ d1 d2 v1 v2 => by
  rw [v2.eq rfl]
  show ofB ((inL d1 (b.map k) μ).map not) μ = _
  rw [inL_map (vE_vw Lsk.cl v1)]; rfl
/-- whether a text has another -/
def inS (a b : List Nat) : Bool := match a with
  | [c] => decide (c ∈ b)
  | a => !(Builtin.Str.occurrences (S b) (S a) 0 b.length 1).isEmpty
theorem inS_one {c : Nat} {b : List Nat} : inS [c] b = decide (c ∈ b) := rfl
theorem inB_str {a b : List Nat} : dInB (.str a) (.str b) μ = some (inS a b) := by
  match a with
  | [] => rfl
  | [c] => rfl
  | _ :: _ :: _ => rfl
theorem o_inS : Op2T x dIn D.str D.str D.bl (fun a b => .ok (inS a b)) := fun a b μ d1 d2 v1 v2 => by
  rw [vs v1, vs v2]
  show ofB (dInB _ _ _) μ = _
  rw [inB_str]; rfl
theorem o_notInS : Op2T x dNotIn D.str D.str D.bl (fun a b => .ok (!inS a b)) := fun a b μ d1 d2 v1 v2 => by
  rw [vs v1, vs v2]
  show ofB ((dInB _ _ _).map not) μ = _
  rw [inB_str]; rfl
/-! is None -/
class Nnk {α : Type} (k : α → D) : Prop where
  nn : ∀ a, k a ≠ .non
instance : Nnk D.int := ⟨fun a h => by cases h⟩
instance : Nnk D.str := ⟨fun a h => by cases h⟩
instance : Nnk D.bl := ⟨fun a h => by cases h⟩
instance : Nnk (kTp k) := ⟨fun a h => by cases h⟩
instance : Nnk (kT2 k l) := ⟨fun a h => by cases h⟩
instance : Nnk (kT3 k l m) := ⟨fun a h => by cases h⟩
instance : Nnk (kLs k) := ⟨fun a h => by cases h⟩
theorem is_non {f : D} : dIs f .non μ = .ok (.bl (match f with | .non => true | _ => false), μ) := by
  unfold dIs; rfl
theorem isNot_non {f : D} : dIsNot f .non μ = .ok (.bl (match f with | .non => false | _ => true), μ) := by
  unfold dIsNot; rfl
theorem td_isN {γ : Sls T} {ma : M} {ga : T → R (Option α)} [Nnk k] (h : TD x γ ma (kOpt k) ga) : TD x γ (cB dIs ma (cK .non)) D.bl (fun s => (ga s).bind fun a => .ok a.isNone) := fun s e μ E => Sim.bind.mpr ((h s e μ E).imp (fun a q => by
  show cB dIs ma (cK .non) e μ = _
  unfold cB; rw [q]
  show dIs (kOpt k a) .non μ = _
  rw [is_non]
  cases a with
  | none => rfl
  | some a =>
    have := Nnk.nn (k := k) a
    show Res.ok (D.bl (match k a with | .non => true | _ => false), μ) = _
    split
    · rename_i z; exact absurd z this
    · rfl) fun _ _ q => by unfold cB; rw [q]; rfl)
theorem td_isNotN {γ : Sls T} {ma : M} {ga : T → R (Option α)} [Nnk k] (h : TD x γ ma (kOpt k) ga) : TD x γ (cB dIsNot ma (cK .non)) D.bl (fun s => (ga s).bind fun a => .ok a.isSome) := fun s e μ E => Sim.bind.mpr ((h s e μ E).imp (fun a q => by
  show cB dIsNot ma (cK .non) e μ = _
  unfold cB; rw [q]
  show dIsNot (kOpt k a) .non μ = _
  rw [isNot_non]
  cases a with
  | none => rfl
  | some a =>
    have := Nnk.nn (k := k) a
    show Res.ok (D.bl (match k a with | .non => false | _ => true), μ) = _
    split
    · rename_i z; exact absurd z this
    · rfl) fun _ _ q => by unfold cB; rw [q]; rfl)
/-! methods -/
def OpMD (x : Bool) (fm : FM) (ko : α → D) (kas : A → List D) (kc : δ → D) (op : α → A → R δ) : Prop := ∀ o a μ d ds, Vw μ d (ko o) → VwL μ ds (kas a) → Sim x (op o a) (fun c => fm d ds μ = .ok (kc c, μ)) (fun y fs => fm d ds μ = .ex y fs μ)
def IsTk (T : String) (ko : α → D) : Prop := ∀ a μ d, Vw μ d (ko a) → isT T d μ = true
theorem td_bm {γ : Sls T} {mo : M} {ms : MA} {Tn : String} {fm : FM} {ko : α → D} {kas : A → List D} {kc : δ → D} {op : α → A → R δ} {go : T → R α} {G : (β : Type) → T → (A → R β) → R β} (ho : TE x γ mo ko go) (ha : TA x γ ms kas G) (ht : IsTk Tn ko) (hp : OpMD x fm ko kas kc op) :
    TD x γ (cM Tn fm mo ms) kc (fun s => (go s).bind fun o => G δ s fun a => op o a) := fun s e μ E => by
  refine Sim.bind.mpr ((ho s e μ E).imp (fun o ⟨d, q1, v1⟩ => ?_) fun y ds q => by unfold cM; rw [q]; rfl)
  have e0 : cM Tn fm mo ms e μ = (ms e μ).bind fun y => fm d y.1 y.2 := by
    unfold cM; rw [q1]
    exact if_pos (ht o μ d v1)
  rw [e0]
  rcases ha s e μ E with ⟨a, ds, e1, v2, _, hc⟩ | ⟨y, fs, e1, hc⟩ | hc
  · rw [hc, e1]
    exact hp o a μ d ds v1 v2
  · rw [hc]; exact fun z => by rw [e1 z]; rfl
  · rw [hc]; trivial
theorem ik_str : IsTk "str" D.str := fun a μ d v => by rw [vs v]; exact isT_s
theorem ik_lst : IsTk "list" (kLs k) := fun a μ d v => by
  obtain ⟨h1, n2, _⟩ := lof_vw v
  unfold isT
  split
  · exact absurd rfl (n2 _)
  · rw [h1]; rfl
theorem o_lower : OpMD x mLower D.str (fun _ : Unit => []) D.str (fun o _ => lowR o) := fun o a μ d ds v1 v2 => by
  rw [vs v1]
  match ds, v2 with
  | [], _ => exact Sim.gd fun h => if_pos h
theorem o_upper : OpMD x mUpper D.str (fun _ : Unit => []) D.str (fun o _ => uppR o) := fun o a μ d ds v1 v2 => by
  rw [vs v1]
  match ds, v2 with
  | [], _ => exact Sim.gd fun h => if_pos h
theorem seqD_vw {a : List (List Nat)} (v : Vw μ d (kLs D.str a)) : seqD d μ = some (a.map D.str) := by
  obtain ⟨h1, _, n3, _⟩ := lof_vw v
  unfold seqD
  split
  · exact absurd rfl (n3 _)
  · exact h1
theorem o_joinL : OpMD x mJoin D.str (fun a : List (List Nat) × Unit => [kLs D.str a.1]) D.str (fun o a => joinR o a.1) := fun o a μ d ds v1 v2 => by
  rw [vs v1]
  obtain ⟨d2, rfl, w2⟩ := vw1 v2
  have v2 := w2
  refine Sim.gd fun h => ?_
  show (match seqD d2 μ with | some ys => _ | none => _) = _
  rw [seqD_vw v2]
  show (match strsOf (a.1.map D.str) with | some ys => _ | none => _) = _
  rw [strsOf_map]
  exact if_pos h
theorem o_joinT : OpMD x mJoin D.str (fun a : List (List Nat) × Unit => [kTp D.str a.1]) D.str (fun o a => joinR o a.1) := fun o a μ d ds v1 v2 => by
  rw [vs v1]
  obtain ⟨d2, rfl, w2⟩ := vw1 v2
  have v2 := w2
  rw [v2.eq rfl]
  refine Sim.gd fun h => ?_
  show (match strsOf (a.1.map D.str) with | some ys => _ | none => _) = _
  rw [strsOf_map]
  exact if_pos h
theorem o_count : OpMD x mCount D.str (fun a : List Nat × Unit => [D.str a.1]) D.int (fun o a => .ok (Txt.count (S o) (S a.1))) := fun o a μ d ds v1 v2 => by
  rw [vs v1]
  obtain ⟨d2, rfl, w2⟩ := vw1 v2
  have v2 := w2
  rw [vs v2]; exact rfl
theorem o_find : OpMD x mFind D.str (fun a : List Nat × Unit => [D.str a.1]) D.int (fun o a => .ok (Txt.find (S o) (S a.1))) := fun o a μ d ds v1 v2 => by
  rw [vs v1]
  obtain ⟨d2, rfl, w2⟩ := vw1 v2
  have v2 := w2
  rw [vs v2]; exact rfl
/-! lists that are changed -/
theorem ct_lst : CellT "list" (kLs k) := fun c μ n h => isT_r h
theorem o_append (hk : ∀ a, isCl (k a) = false) : OpMT x mAppend (kLs k) (fun a : α × Unit => [k a.1]) (fun c a => appR c a.1) := fun c a μ n ds h v => by
  obtain ⟨d, rfl, w⟩ := vw1 v
  have v := w
  rw [v.eq (hk _)]
  refine Sim.gd fun hl => ⟨.non, ?_⟩
  rw [m_append, h]
  show kApp (some (.lst (c.map k))) n _ μ = _
  rw [kApp1 (by simpa using hl)]
  show _ = Res.ok (D.non, μ.set n (.lst ((c ++ [a.1]).map k)))
  rw [List.map_append]; rfl
theorem o_appendD : OpMD1 x mAppend (kLs k) (fun a : α × Unit => [k a.1]) (fun c a => appR c a.1) := fun c a μ n h => by
  refine Sim.gd fun hl => ⟨.non, ?_⟩
  rw [m_append, h]
  show kApp (some (.lst (c.map k))) n _ μ = _
  rw [kApp1 (by simpa using hl)]
  show _ = Res.ok (D.non, μ.set n (.lst ((c ++ [a.1]).map k)))
  rw [List.map_append]; rfl
theorem o_extend : OpMT x mExtend (kLs k) (fun a : List α × Unit => [kLs k a.1]) (fun c a => addR c a.1) := fun c a μ n ds h v => by
  obtain ⟨d, rfl, w⟩ := vw1 v
  have v := w
  obtain ⟨_, _, _, _, h1⟩ := lof_vw v
  refine Sim.gd fun hl => ⟨.non, ?_⟩
  show lst1 (.ref n) μ _ = _
  unfold lst1
  simp only [h, kLs]
  show (match lofT d μ with | some ys => _ | none => _) = _
  rw [h1]
  show (if (c.map k).length + (a.1.map k).length ≤ lineN then _ else _) = _
  rw [if_pos (by simpa using hl), List.map_append]
def setR (c : List α) (j : Int) (v : α) : R (List α) := match ixN c.length j with | some i => .ok (c.set i v) | none => .no
theorem o_setL : OpST (kLs k) D.int k setR := fun c j v μ n h => by
  show Sim false (match ixN c.length j with | some i => R.ok (c.set i v) | none => .no) _ _
  cases q : ixN c.length j with
  | none => trivial
  | some i =>
    show dSet (.ref n) (.int j) (k v) μ = some (μ.set n (.lst ((c.set i v).map k)))
    unfold dSet
    simp only [h, kLs]
    rw [List.length_map, q, List.map_set]

/-! parts that are always there -/
section
variable {γ : Sls T} {ma mb mc : M} {ta tb : MT} {va vb vc : T → Bool} {α β δ : Type} {ka : α → D} {kb : β → D} {kc : δ → D}
theorem tt_andP (va vb : T → Bool) (h : TT x γ ta (fun s => .ok (va s))) (k : TT x γ tb (fun s => .ok (vb s))) : TT x γ (tAndD ta tb) (fun s => .ok (va s && vb s)) := fun s e μ E => by
  have := tt_and h k s e μ E
  revert this
  show Sim x (if va s = true then R.ok (vb s) else .ok false) _ _ → Sim x (R.ok (va s && vb s)) _ _
  cases va s <;> exact id
theorem tt_orP (va vb : T → Bool) (h : TT x γ ta (fun s => .ok (va s))) (k : TT x γ tb (fun s => .ok (vb s))) : TT x γ (tOrD ta tb) (fun s => .ok (va s || vb s)) := fun s e μ E => by
  have := tt_or h k s e μ E
  revert this
  show Sim x (if va s = true then R.ok true else R.ok (vb s)) _ _ → Sim x (R.ok (va s || vb s)) _ _
  cases va s <;> exact id
theorem td_andP (va vb : T → Bool) (h : TD x γ ma D.bl (fun s => .ok (va s))) (k : TD x γ mb D.bl (fun s => .ok (vb s))) : TD x γ (cAndD ma mb) D.bl (fun s => .ok (va s && vb s)) := fun s e μ E => by
  have := td_and h k s e μ E
  revert this
  show Sim x (if va s = true then R.ok (vb s) else .ok false) _ _ → Sim x (R.ok (va s && vb s)) _ _
  cases va s <;> exact id
theorem td_orP (va vb : T → Bool) (h : TD x γ ma D.bl (fun s => .ok (va s))) (k : TD x γ mb D.bl (fun s => .ok (vb s))) : TD x γ (cOrD ma mb) D.bl (fun s => .ok (va s || vb s)) := fun s e μ E => by
  have := td_or h k s e μ E
  revert this
  show Sim x (if va s = true then R.ok true else R.ok (vb s)) _ _ → Sim x (R.ok (va s || vb s)) _ _
  cases va s <;> exact id
theorem td_ifP {α : Type} {ka : α → D} (vt : T → Bool) (va vb : T → α) (hc : TT x γ ta (fun s => .ok (vt s))) (h : TD x γ ma ka (fun s => .ok (va s))) (k : TD x γ mb ka (fun s => .ok (vb s))) : TD x γ (cIf ta ma mb) ka (fun s => .ok (if vt s then va s else vb s)) := fun s e μ E => by
  have := td_if hc h k s e μ E
  revert this
  show Sim x (if vt s = true then R.ok (va s) else R.ok (vb s)) _ _ → Sim x (R.ok (if vt s = true then va s else vb s)) _ _
  cases vt s <;> exact id
theorem td_chP {f g : F2} {op : α → β → Bool} {op2 : β → δ → Bool} (va : T → α) (vb : T → β) (vc : T → δ) (ha : TE x γ ma ka (fun s => .ok (va s))) (hb : TE x γ mb kb (fun s => .ok (vb s))) (hc : TE x γ mc kc (fun s => .ok (vc s))) (ho : Op2T x f ka kb D.bl (fun a b => .ok (op a b))) (ho2 : Op2T x g kb kc D.bl (fun a b => .ok (op2 a b))) :
    TD x γ (cCh f g ma mb mc) D.bl (fun s => .ok (op (va s) (vb s) && op2 (vb s) (vc s))) := fun s e μ E => by
  have := td_ch ha hb hc ho ho2 s e μ E
  revert this
  show Sim x (if op (va s) (vb s) = true then R.ok (op2 (vb s) (vc s)) else R.ok false) _ _ → Sim x (R.ok (op (va s) (vb s) && op2 (vb s) (vc s))) _ _
  cases op (va s) (vb s) <;> exact id
end
end
end Lr
namespace Lr
open PySem L2
theorem td_isi {S α : Type} {x : Bool} {γ : Sls S} {ma : M} {k : α → D} {ga : S → R α} {T : String} (b : Bool) (h : TD x γ ma k ga) (hk : ∀ (a : α) (μ : Mu), dIsi T (k a) μ = .ok (.bl b, μ)) : TD x γ (cU (dIsi T) ma) D.bl (fun s => (ga s).bind fun _ => .ok b) := fun s e μ E => Sim.bind.mpr ((h s e μ E).imp (fun a q => by
  show cU (dIsi T) ma e μ = _
  unfold cU; rw [q]; exact hk a μ) fun _ _ q => by unfold cU; rw [q]; rfl)
end Lr
namespace Lr
open PySem L2
theorem o_lenK {α : Type} {x : Bool} {k : α → D} (n : Int) (h : ∀ a, ∃ ds, k a = .tup ds ∧ (ds.length : Int) = n) : OpNT x dLen (fun a : α × Unit => [k a.1]) D.int (fun _ => .ok n) := fun a μ ds v => by
  obtain ⟨d, rfl, w⟩ := vw1 v
  obtain ⟨es, e1, e2⟩ := h a.1
  have w : Vw μ d (k a.1) := w
  rw [e1] at w
  rw [w.eq rfl]
  show Res.ok (D.int (es.length : Int), μ) = _
  rw [e2]
end Lr
namespace Lr
theorem rg1_eq {j : Int} : rg1 j = R.gd (okR j) (.ok (rgZ 0 j.toNat)) := rfl
theorem rg2_eq {i j : Int} : rg2 i j = R.gd (okR i ∧ okR j) (.ok (rgZ i (j - i).toNat)) := rfl
theorem forR_eq {X L M ρ : Type} {xs : List X} {l : L} {b : L → X → R (Fl L L ρ)} : forR (M := M) xs l b = R.gd (xs.length ≤ lineN) (forL b xs l) := rfl
theorem lcR_eq {X β : Type} {xs : List X} {t : X → R Bool} {b : X → R β} : lcR xs t b = R.gd (xs.length ≤ lineN) (lcL t b xs) := rfl
theorem addR_eq {α : Type} {a b : List α} : addR a b = R.gd (a.length + b.length ≤ lineN) (.ok (a ++ b)) := rfl
theorem mulR_eq {α : Type} {a : List α} {b : Int} : mulR a b = R.gd (-(2 ^ 63) ≤ b ∧ b < 2 ^ 63 ∧ a.length * b.toNat ≤ lineN) (.ok (repL a b)) := rfl
end Lr
namespace Lr
local macro_rules | `(tactic| walk_at "dt") => `(tactic| ((try simp only [Dt.n] at *); omega))
theorem knl_nil {α : Type} : KnL (fun _ : α => []) .o := ⟨fun _ => rfl, fun _ _ _ _ => rfl⟩
theorem knl_cons {α β : Type} {k : β → D} {n n2 : Dt} [Kn k n] {r : α → List D} (p : α → β) (h : KnL r n2) : KnL (fun o => k (p o) :: r o) (.m n n2) := ⟨fun a => nrs2 (Kn.nr (p a)) (h.nr a), fun a μ m hm => mapO_cons (Kn.il (p a) μ m (by walk_at "dt")) (h.il a μ m (by walk_at "dt"))⟩
end Lr

/-! Lr, part 37: zip, enumerate; str.index; dict.setdefault. -/
namespace Lr
open PySem L2

/-! ### zip, enumerate -/
def pairsD (xs ys : List D) : List D := List.zipWith (fun a b => .tup [a, b]) xs ys
def iZip (ms : MA) : MI := fun e μ => (ms e μ).bind fun x => match x.1 with
  | [.tup xs, .tup ys] => .ok (.fix (pairsD xs ys), x.2)
  | [.lst xs, .lst ys] => .ok (.fix (pairsD xs ys), x.2)
  | _ => .no
def numD (xs : List D) : List D := xs.mapIdx fun i d => .tup [.int (i : Nat), d]
def iEnum (ms : MA) : MI := fun e μ => (ms e μ).bind fun x => match x.1 with
  | [.lst xs] => .ok (.fix (numD xs), x.2)
  | _ => .no
section
variable {t : Ct} {G H : Hp} {ρ : List Addr}
theorem pair_get {xs ys : List D} {i : Nat} {d : D} (h : (pairsD xs ys)[i]? = some d) : ∃ a b, xs[i]? = some a ∧ ys[i]? = some b ∧ d = .tup [a, b] := by
  unfold pairsD at h
  rw [List.getElem?_zipWith] at h
  cases hx : xs[i]? with
  | none => rw [hx] at h; simp at h
  | some a =>
    cases hy : ys[i]? with
    | none => rw [hx, hy] at h; simp at h
    | some b => rw [hx, hy] at h; simp at h; exact ⟨a, b, rfl, rfl, h.symm⟩
theorem pair_none {xs ys : List D} {i : Nat} (h : (pairsD xs ys)[i]? = none) : xs.length ≤ i ∨ ys.length ≤ i := by
  unfold pairsD at h
  rw [List.getElem?_eq_none_iff, List.length_zipWith] at h
  omega
theorem src_zipT {a b : Addr} {vs ws : List V} {xs ys : List D} (hq : SqT t.K G a vs) (hr : SqT t.K G b ws) (r : reps t G ρ xs vs) (r2 : reps t G ρ ys ws) : SrcOk t G ρ H (.fix (pairsD xs ys)) (RZ.ItzT t.K a b) := by
  intro i G1 ρ1 env1 μ1 σ1 H1 zs e R h
  cases h
  have q1 : SqT t.K H1 a vs := Same.seqT (e.sub.trans R.sub) hq
  have q2 : SqT t.K H1 b ws := Same.seqT (e.sub.trans R.sub) hr
  have r1 := e.reps r
  have r3 := e.reps r2
  refine ⟨fun d hd => ?_, fun hn => ⟨vs, ws, q1, q2, ?_⟩⟩
  · obtain ⟨x, y, hx, hy, rfl⟩ := pair_get hd
    obtain ⟨u, hu, ru⟩ := r1.get hx
    obtain ⟨w, hw, rw'⟩ := r3.get hy
    refine ⟨⟨vs, ws, u, w, q1, q2, hu, hw⟩, fun v H2 ⟨T, p, q, e1, hT, e2, g1, g2⟩ => ?_⟩
    subst e1 e2
    have := g1 vs q1; rw [hu] at this; cases this
    have := g2 ws q2; rw [hw] at this; cases this
    obtain ⟨R2, e2⟩ := R.laidG (.tup [u, w]) hT
    exact ⟨_, e2, R2, ⟨T, [u, w], rfl, upd_same, e2.reps ⟨u, [w], rfl, ru, w, [], rfl, rw', rfl⟩⟩⟩
  · rw [r1.length, r3.length]
    exact pair_none hn
theorem src_zipL {a b : Addr} {vs ws : List V} {xs ys : List D} (hq : SqL t.K G a vs) (hr : SqL t.K G b ws) (r : reps t G ρ xs vs) (r2 : reps t G ρ ys ws) : SrcOk t G ρ H (.fix (pairsD xs ys)) (Itz t.K a b) := by
  intro i G1 ρ1 env1 μ1 σ1 H1 zs e R h
  cases h
  have q1 : SqL t.K H1 a vs := Same.seq (e.sub.trans R.sub) hq
  have q2 : SqL t.K H1 b ws := Same.seq (e.sub.trans R.sub) hr
  have r1 := e.reps r
  have r3 := e.reps r2
  refine ⟨fun d hd => ?_, fun hn => ⟨vs, ws, q1, q2, ?_⟩⟩
  · obtain ⟨x, y, hx, hy, rfl⟩ := pair_get hd
    obtain ⟨u, hu, ru⟩ := r1.get hx
    obtain ⟨w, hw, rw'⟩ := r3.get hy
    refine ⟨⟨vs, ws, u, w, q1, q2, hu, hw⟩, fun v H2 ⟨T, p, q, e1, hT, e2, g1, g2⟩ => ?_⟩
    subst e1 e2
    have := g1 vs q1; rw [hu] at this; cases this
    have := g2 ws q2; rw [hw] at this; cases this
    obtain ⟨R2, e2⟩ := R.laidG (.tup [u, w]) hT
    exact ⟨_, e2, R2, ⟨T, [u, w], rfl, upd_same, e2.reps ⟨u, [w], rfl, ru, w, [], rfl, rw', rfl⟩⟩⟩
  · rw [r1.length, r3.length]
    exact pair_none hn
theorem src_enum {a : Addr} {vs : List V} {xs : List D} (hq : SqL t.K G a vs) (r : reps t G ρ xs vs) : SrcOk t G ρ H (.fix (numD xs)) (Ite t.K a) := by
  intro i G1 ρ1 env1 μ1 σ1 H1 zs e R h
  cases h
  have q1 : SqL t.K H1 a vs := Same.seq (e.sub.trans R.sub) hq
  have r1 := e.reps r
  refine ⟨fun d hd => ?_, fun hn => ⟨vs, q1, ?_⟩⟩
  · unfold numD at hd
    rw [List.getElem?_mapIdx] at hd
    cases hx : xs[i]? with
    | none => rw [hx] at hd; cases hd
    | some x =>
      rw [hx] at hd
      cases hd
      obtain ⟨u, hu, ru⟩ := r1.get hx
      refine ⟨⟨vs, u, q1, hu⟩, fun v H2 ⟨T, p, e1, hT, e2, g1⟩ => ?_⟩
      subst e1 e2
      have := g1 vs q1; rw [hu] at this; cases this
      obtain ⟨R2, e2⟩ := R.laidG (.tup [.int (i : Nat), u]) hT
      exact ⟨_, e2, R2, ⟨T, _, rfl, upd_same, e2.reps ⟨.int (i : Nat), [u], rfl, rfl, u, [], rfl, ru, rfl⟩⟩⟩
  · rw [r1.length]
    unfold numD at hn
    rw [List.getElem?_eq_none_iff, List.length_mapIdx] at hn
    exact List.getElem?_eq_none (by exact hn) |> fun z => by first | exact hn | exact z
end
section
variable {nm : Nm} {X : Cx} {W : XW} {a b : Expr} {pos p tpos : Pos} {ms : MA} {elts : List Expr} {kk : Nat}
theorem iv_zip (ha : AV nm X W [a, b] ms) (hg : Gl X "zip" := by rfl) (hm : X.mg "zip" = none := by assumption) (hs : starEach [a, b] X.env = (false, eval a X.env) :: starEach [b] X.env := by rfl) (hpl : (backTo pos (starEach [b] X.env)).any (·.1) = false := by rfl) :
    IV nm X W (.Tuple elts kk tpos) (.Call (.Name "zip" p) [a, b] [] pos) (iZip ms) := ⟨fun env μ σ H ρ G R0 R P => to_i (RZ.pi_zipA hg hm pa_wp hs hpl) (by
  refine ha.run env μ σ H ρ G _ R ((Po.bind P).imp (fun x hx vs H1 ρ1 G1 e1 R1 r => ?_) fun _ _ _ h => h)
  obtain ⟨ds, μ1⟩ := x
  dsimp only at hx
  split at hx
  · obtain ⟨v, r0, rfl, rv, w, r1, rfl, rw', hr⟩ := r
    cases hr
    obtain ⟨c, us, rfl, q, rs⟩ := rv
    obtain ⟨c2, us2, rfl, q2, rs2⟩ := rw'
    exact ⟨c, c2, us, us2, rfl, .inr ⟨SqT.of (R1.sub _ _ q), SqT.of (R1.sub _ _ q2), hx _ H1 ρ1 G1 e1 R1 (src_zipT (SqT.of q) (SqT.of q2) rs rs2)⟩⟩
  · obtain ⟨v, r0, rfl, rv, w, r1, rfl, rw', hr⟩ := r
    cases hr
    obtain ⟨c, us, rfl, q, rs⟩ := rv
    obtain ⟨c2, us2, rfl, q2, rs2⟩ := rw'
    exact ⟨c, c2, us, us2, rfl, .inl ⟨SqL.of (R1.sub _ _ q), SqL.of (R1.sub _ _ q2), hx _ H1 ρ1 G1 e1 R1 (src_zipL (SqL.of q) (SqL.of q2) rs rs2)⟩⟩
  · exact hx.elim)⟩
theorem iv_enum (ha : AV nm X W [a] ms) (hg : Gl X "enumerate" := by rfl) (hm : X.mg "enumerate" = none := by assumption) (hs : starEach [a] X.env = [(false, eval a X.env)] := by rfl) :
    IV nm X W (.Tuple elts kk tpos) (.Call (.Name "enumerate" p) [a] [] pos) (iEnum ms) := ⟨fun env μ σ H ρ G R0 R P => to_i (pi_enum hg hm pa_wp hs) (by
  refine ha.run env μ σ H ρ G _ R ((Po.bind P).imp (fun x hx vs H1 ρ1 G1 e1 R1 r => ?_) fun _ _ _ h => h)
  obtain ⟨ds, μ1⟩ := x
  dsimp only at hx
  split at hx
  · obtain ⟨v, r0, rfl, rv, hr⟩ := r
    cases hr
    obtain ⟨c, us, rfl, q, rs⟩ := rv
    exact ⟨c, us, rfl, SqL.of (R1.sub _ _ q), hx _ H1 ρ1 G1 e1 R1 (src_enum (SqL.of q) rs)⟩
  · exact hx.elim)⟩
/-! ### s.index(t) -/
def mIndex : FM := fun d ds μ => match d, ds with
  | .str x, [.str y] => match Builtin.Str.occurrences (S x) (S y) 0 x.length 1 with
    | i :: _ => .ok (.int (i : Nat), μ)
    | [] => .no
  | _, _ => .no
theorem opm_index : OpM nm X W mIndex (fun x xs H Q => ∃ a b i rest, x = .str a ∧ xs = [.str b] ∧ Builtin.Str.occurrences a b 0 a.length 1 = i :: rest ∧ Q (.int (i : Nat)) H) := by
  intro env μ σ H ρ G Q d ds v vs R rv r P
  unfold mIndex at P
  split at P
  · obtain ⟨rfl, _⟩ := rv
    obtain ⟨w, r0, rfl, rw', hr⟩ := r
    cases hr
    obtain ⟨rfl, _⟩ := rw'
    split at P
    · rename_i i rest q
      exact ⟨_, _, i, rest, rfl, rfl, by rw [S_len]; exact q, P _ H ρ G .refl R rfl⟩
    · exact P.elim
  · exact P.elim
end
end Lr

/-! Lr, part 38: instances made, with types; texts that are searched. -/
namespace Lr
open PySem L2
def R.finI {N L ρ : Type} (r : R (Fl N L ρ)) : R N := r.bind fun o => match o with
  | .nx n => .ok n
  | _ => .no
theorem R.finI_nx {N L ρ : Type} {n : N} : R.finI (L := L) (ρ := ρ) (.ok (.nx n)) = .ok n := id rfl
theorem R.finI_rt {N L ρ : Type} {n : ρ} : R.finI (L := L) (N := N) (.ok (.rt n)) = .no := id rfl
theorem R.finI_no {N L ρ : Type} : R.finI (L := L) (N := N) (ρ := ρ) .no = .no := id rfl
theorem R.finI_if {N L ρ : Type} {p : Prop} [Decidable p] {a b : R (Fl N L ρ)} : R.finI (if p then a else b) = if p then R.finI a else R.finI b := by split <;> rfl
theorem R.finI_bind {N L ρ α : Type} {r : R α} {h : α → R (Fl N L ρ)} : R.finI (r.bind h) = r.bind fun a => R.finI (h a) := by cases r <;> rfl
section
variable {S α N L ρ A O V : Type} {x : Bool} {γ : Sls S} {Qn : S → N → Ev → Mu → Prop} {Ql : S → L → Ev → Mu → Prop} {Qr : ρ → D → Mu → Prop} {Qx : S → Ev → Mu → Prop} {r m : SM} {ma : M}
theorem tb_no : TB x γ sNo Qn Ql Qr Qx (fun _ => .no) := fun s e μ E => trivial
/-- self.x = e, as the instance is made -/
theorem tb_fld {c i n : Nat} {fs : S → List D} {kv : V → D} {gv : S → R V} {g2 : S × V → R (Fl N L ρ)} (hi : nth γ 0 = .cel (some n) (fun s => .obj c (fs s))) (hl : ∀ s, (fs s).length = i) (hv : TD x γ ma kv gv)
    (kk : TB x (put (lifts Prod.fst γ) 0 (.cel (some n) fun t => .obj c (fs t.1 ++ [kv t.2]))) r (fun t => Qn t.1) (fun t => Ql t.1) Qr (fun t => Qx t.1) g2) (hx : x = true → ∀ s e μ, Enc γ s e μ → Qx s e μ) :
    TB x γ (sSeq (sFl c i (cV 0) ma) r) Qn Ql Qr Qx (fun s => (gv s).bind fun v => g2 (s, v)) := tb_sto (δ := put (lifts Prod.fst γ) 0 (.cel (some n) fun t => .obj c (fs t.1 ++ [kv t.2]))) (fun s e μ E => by
  obtain ⟨e1, e2⟩ := E.celN hi
  have ev : cV 0 e μ = .ok (.ref n, μ) := by unfold cV; rw [e1]
  have h1 := hv s e μ E
  revert h1
  cases gv s with
  | ok v =>
    intro q
    have q : ma e μ = .ok (kv v, μ) := q
    refine ⟨e, μ.set n (.obj c (fs s ++ [kv v])), ?_, (Enc.lift (p := Prod.fst) (t := (s, v)) E).mut (f := fun t => .obj c (fs t.1)) (f' := fun t => .obj c (fs t.1 ++ [kv t.2])) (by rw [nth_lifts, hi]; rfl) e1⟩
    unfold sFl eThen
    rw [q]
    simp only [Res.bind, ev, e2, if_true]
    unfold setF
    rw [if_neg (by rw [hl]; omega), if_pos (hl s).symm]
    rfl
  | ex y fs => exact fun q z => ⟨e, μ, by unfold sFl eThen; rw [q z]; rfl, hx z s e μ E⟩
  | no => exact fun _ => trivial) kk
/-- self.x, as the instance is made -/
theorem td_fldS {c j n : Nat} {fs : S → List D} {kf : α → D} (p : S → α) (hi : nth γ 0 = .cel (some n) (fun s => .obj c (fs s))) (h : ∀ s, (fs s)[j]? = some (kf (p s))) : TD x γ (cU (dFld c j) (cV 0)) kf (fun s => .ok (p s)) := fun s e μ E => by
  obtain ⟨e1, e2⟩ := E.celN hi
  have ev : cV 0 e μ = .ok (.ref n, μ) := by unfold cV; rw [e1]
  show cU (dFld c j) (cV 0) e μ = _
  unfold cU
  rw [ev]
  show dFld c j (.ref n) μ = _
  unfold dFld oof
  simp only [e2, if_true, h]
theorem tfi_mk {c n r' : Nat} {ka : A → List D} {ko : O → List D} {d : Dt} [KnL ko d] [Le11 d] {fs : List (A → D)} {f : A → R O} (hk : ∀ a, ((D.ref 0 :: ka a).map some ++ List.replicate (n - (D.ref 0 :: ka a).length) none) = some (.ref 0) :: ((fs.map fun f => some (f a)) ++ List.replicate r' none))
    (h : ∃ g : A → R (Fl O Unit Unit), TB false (.cel (some 0) (fun _ => .obj c []) :: starts fs r') m (fun _ o _ μ => μ[0]? = some (.obj c (ko o))) (fun _ _ _ _ => True) (fun _ _ _ => True) (fun _ _ _ => True) g ∧ ∀ a, (g a).finI = f a) : TFI c ka ko (bodyF n m) f := fun a => by
  obtain ⟨g, h1, h2⟩ := h
  rw [← h2]
  refine Sim.bind.mpr ?_
  have E : Enc (.cel (some 0) (fun _ => .obj c []) :: starts fs r') a (some (.ref 0) :: ((fs.map fun f => some (f a)) ++ List.replicate r' none)) [.obj c []] := by
    have E0 := enc_start fs r' a [.obj c []]
    refine ⟨by rw [List.length_cons, List.length_cons, E0.len], fun i => ?_, fun i j q ci cj ei ej => ?_⟩
    · cases i with
      | zero => exact ⟨rfl, rfl⟩
      | succ i => exact E0.ok i
    · cases i with
      | zero =>
        cases j with
        | zero => rfl
        | succ j => exact absurd (show (nth (starts fs r') j).isC = true from cj) (by rw [starts_nc]; simp)
      | succ i => exact absurd (show (nth (starts fs r') i).isC = true from ci) (by rw [starts_nc]; simp)
  have h := h1 a _ _ E
  revert h
  cases g a with
  | ok o =>
    cases o with
    | nx v =>
      rintro ⟨e', μ', q1, q2⟩
      refine ⟨μ', ?_, ?_⟩
      · unfold bodyF
        rw [hk, q1]
      · unfold inl
        rw [q2]
        show (mapO (inl true μ' 11) (ko v)).map (D.obj c) = _
        rw [KnL.il v μ' 11 le11]; rfl
    | rt => exact fun _ => trivial
    | bk => exact fun _ => trivial
    | ct => exact fun _ => trivial
  | ex => exact fun _ _ => trivial
  | no => exact fun _ => trivial
end
end Lr

/-! Lr, part 39: rows made anew, signs laid into them. -/
namespace Lr
open PySem L2
abbrev Tri := Int × Int × List Nat
abbrev kTri : Tri → D := kT3 D.int D.int D.str
def setZ (rows : List (List (List Nat))) (q : Tri) : R (List (List (List Nat))) := match ixN rows.length q.1 with
  | none => .no
  | some i => match rows[i]? with
    | none => .no
    | some x => match ixN x.length q.2.1 with
      | none => .no
      | some j => .ok (rows.set i (x.set j q.2.2))
def laidZ (rows : List (List (List Nat))) : List Tri → R (List (List (List Nat)))
  | [] => .ok rows
  | q :: L => (setZ rows q).bind fun r => laidZ r L
/-- the rows' signs, and these laid -/
def gridZ (rows : List (List Nat)) (L : List Tri) : R (List (List (List Nat))) := R.gd (rows.length ≤ lineN ∧ (∀ x ∈ rows, x.length ≤ lineN) ∧ L.length ≤ lineN) (laidZ (rows.map sgs) L)
/-- .. as texts -/
def laidT (rows : List (List Nat)) (L : List Tri) : R (List (List Nat)) := (gridZ rows L).bind fun g => R.gd (∀ x ∈ g, (x.map List.length).sum ≤ lineN) (.ok (g.map List.flatten))
def cellsZ (rows : List (List (List Nat))) : Mu := rows.map fun x => D.lst (x.map D.str)
def refsN (n : Nat) : List D := (List.range n).map fun i => D.ref i
noncomputable def zNew : M := cF (dListA true) (cCons (cV 3) cNil)
noncomputable def zBody : SM := sSub (cB dIx (cV 2) (cV 3)) (cV 4) (cV 5)
noncomputable def zJoin : M := cM "str" mJoin (cK (.str [])) (cCons (cV 3) cNil)
theorem setZ_len {rows r : List (List (List Nat))} {q : Tri} (h : setZ rows q = .ok r) : r.length = rows.length := by
  unfold setZ at h
  split at h
  · cases h
  · split at h
    · cases h
    · split at h
      · cases h
      · cases h; simp
theorem laidZ_len : ∀ {L : List Tri} {rows r : List (List (List Nat))}, laidZ rows L = .ok r → r.length = rows.length
  | [], _, _, h => by cases h; rfl
  | q :: L, rows, r, h => by
    obtain ⟨m, h1, h2⟩ := R.bind_eq_ok.mp h
    rw [laidZ_len h2, setZ_len h1]
theorem z_new {rows : List (List Nat)} (h1 : rows.length ≤ lineN) (h2 : ∀ x ∈ rows, x.length ≤ lineN) (s0 s1 s2 s4 s5 : Option D) :
    lcGo (.nm 3) tTrue zNew (.fix (rows.map D.str)) [s0, s1, s2, none, s4, s5] fuel 0 [] [] = .ok (refsN rows.length, cellsZ (rows.map sgs)) := by
  have := lcGo_new (T := .nm 3) (elt := zNew) (xs := rows) (f := D.str) (g := fun x => D.lst (chL x)) (env := [s0, s1, s2, none, s4, s5]) (fu := fuel) (μ := []) (Nat.lt_of_le_of_lt h1 (by have := fuel_ge; unfold lineN; omega)) h1 (fun x hx μ => by
    refine ⟨_, rfl, ?_⟩
    have a : dListA true [.str x] μ = .ok (.ref μ.length, μ ++ [.lst (chL x)]) := by rw [d_listAS (h2 x hx)]; rfl
    show zNew [s0, s1, s2, some (.str x), s4, s5] μ = _
    unfold zNew
    simp only [e_F, e_F1, e_cons, e_cons1, e_cons2, e_nil, e_V, List.getElem?_cons_zero, List.getElem?_cons_succ, a])
  rw [this]
  simp [refsN, cellsZ, chL_sgs]
theorem z_step {rows r : List (List (List Nat))} {q : Tri} (h : setZ rows q = .ok r) (s0 s1 : Option D) :
    zBody [s0, s1, some (.lst (refsN rows.length)), some (.int q.1), some (.int q.2.1), some (.str q.2.2)] (cellsZ rows) = some (.nx [s0, s1, some (.lst (refsN rows.length)), some (.int q.1), some (.int q.2.1), some (.str q.2.2)] (cellsZ r)) := by
  unfold setZ at h
  split at h
  · cases h
  · rename_i i hi
    split at h
    · cases h
    · rename_i x hx
      split at h
      · cases h
      · rename_i j hj
        cases h
        have hil : i < rows.length := (List.getElem?_eq_some_iff.mp hx).1
        have ix : dIx (.lst (refsN rows.length)) (.int q.1) (cellsZ rows) = .ok (.ref i, cellsZ rows) := by
          rw [ix_lof (xs := refsN rows.length) rfl (fun z w => by cases w) (fun z w => by cases w)]
          have : atI (refsN rows.length) q.1 = some (.ref i) := by
            unfold atI refsN
            rw [List.length_map, List.length_range, hi]
            show ((List.range rows.length).map fun i => D.ref i)[i]? = _
            rw [List.getElem?_map, List.getElem?_range hil]; rfl
          rw [this]
        have st : dSet (.ref i) (.int q.2.1) (.str q.2.2) (cellsZ rows) = some (cellsZ (rows.set i (x.set j q.2.2))) := by
          have c : (cellsZ rows)[i]? = some (.lst (x.map D.str)) := by unfold cellsZ; rw [List.getElem?_map, hx]; rfl
          unfold dSet
          simp only [c]
          rw [List.length_map, hj]
          unfold cellsZ
          rw [List.map_set, List.map_set]
        unfold zBody
        simp only [e_sub, e_sub1, e_sub2, e_B, e_B1, e_B2, e_V, List.getElem?_cons_zero, List.getElem?_cons_succ, ix]
        exact e_sub3 st
theorem z_loop : ∀ (L K : List Tri) (i f : Nat) (rows r : List (List (List Nat))) (s0 s1 o3 o4 o5 : Option D), laidZ rows L = .ok r → L = K.drop i → L.length < f → ∃ p3 p4 p5,
    forGo (.tp [.nm 3, .nm 4, .nm 5]) zBody (.fix (K.map kTri)) f i [s0, s1, some (.lst (refsN rows.length)), o3, o4, o5] (cellsZ rows) = some (.nx [s0, s1, some (.lst (refsN rows.length)), p3, p4, p5] (cellsZ r)) := by
  intro L
  induction L with
  | nil =>
    intro K i f rows r s0 s1 o3 o4 o5 h hK hf
    obtain ⟨f, rfl⟩ : ∃ g, f = g + 1 := ⟨f - 1, by omega⟩
    cases h
    refine ⟨o3, o4, o5, ?_⟩
    unfold forGo
    have : (K.map kTri)[i]? = none := by
      rw [List.getElem?_eq_none_iff, List.length_map]
      exact List.drop_eq_nil_iff.mp hK.symm
    simp only [items, this]
  | cons q L ih =>
    intro K i f rows r s0 s1 o3 o4 o5 h hK hf
    obtain ⟨f, rfl⟩ : ∃ g, f = g + 1 := ⟨f - 1, by omega⟩
    obtain ⟨m, h1, h2⟩ := R.bind_eq_ok.mp h
    have hv : (K.map kTri)[i]? = some (kTri q) := by
      rw [List.getElem?_map]
      have : K[i]? = some q := by
        have := congrArg (fun z => z[0]?) hK
        simpa [List.getElem?_drop] using this.symm
      rw [this]; rfl
    have hr' : L = K.drop (i + 1) := by
      have := congrArg List.tail hK
      simpa [List.tail_drop] using this
    have st := z_step h1 s0 s1
    have sT : setT (.tp [.nm 3, .nm 4, .nm 5]) (kTri q) [s0, s1, some (.lst (refsN rows.length)), o3, o4, o5] = some [s0, s1, some (.lst (refsN rows.length)), some (.int q.1), some (.int q.2.1), some (.str q.2.2)] := rfl
    obtain ⟨p3, p4, p5, e⟩ := ih K (i + 1) f m r s0 s1 (some (.int q.1)) (some (.int q.2.1)) (some (.str q.2.2)) h2 hr' (by simp at hf; omega)
    refine ⟨p3, p4, p5, ?_⟩
    unfold forGo
    simp only [items, hv, sT, st]
    rw [← setZ_len h1]
    exact e
theorem z_join {g : List (List (List Nat))} (h1 : g.length ≤ lineN) (h2 : ∀ x ∈ g, (x.map List.length).sum ≤ lineN) (s0 s1 s2 s4 s5 : Option D) :
    lcGo (.nm 3) tTrue zJoin (.fix (refsN g.length)) [s0, s1, s2, none, s4, s5] fuel 0 [] (cellsZ g) = .ok ((g.map List.flatten).map D.str, cellsZ g) := by
  have e : (g.map List.flatten).map D.str = (List.range g.length).map fun i => D.str (g.getD i []).flatten := by
    apply List.ext_getElem
    · simp
    · intro i a b
      simp at a
      simp [a]
  rw [e]
  unfold refsN
  refine lcGo_of (f := fun i => D.ref i) (g := fun i => D.str (g.getD i []).flatten) (by rw [List.length_range]; exact Nat.lt_of_le_of_lt h1 (by have := fuel_ge; unfold lineN; omega)) (by rw [List.length_range]; exact h1) fun i hi => ⟨_, rfl, ?_⟩
  have hi' := List.mem_range.mp hi
  have c : (cellsZ g)[i]? = some (.lst ((g.getD i []).map D.str)) := by unfold cellsZ; simp [hi']
  have j : mJoin (.str []) [.ref i] (cellsZ g) = .ok (.str (g.getD i []).flatten, cellsZ g) := by
    show (match seqD (.ref i) (cellsZ g) with | some ys => _ | none => _) = _
    have : seqD (.ref i) (cellsZ g) = some ((g.getD i []).map D.str) := by show lof (.ref i) (cellsZ g) = _; simp only [lof, c]
    rw [this]
    show (match strsOf ((g.getD i []).map D.str) with | some ys => _ | none => _) = _
    rw [strsOf_map]
    show (if ((g.getD i []).map List.length).sum + (g.getD i []).length * 0 ≤ lineN then _ else _) = _
    have hm : g.getD i [] ∈ g := by rw [List.getD_eq_getElem?_getD, List.getElem?_eq_getElem hi']; exact List.getElem_mem _
    rw [if_pos (by rw [Nat.mul_zero]; exact h2 _ hm), joinL_nil]
  show zJoin [s0, s1, s2, some (.ref i), s4, s5] (cellsZ g) = _
  unfold zJoin
  simp (disch := exact isT_s) only [e_M, e_M1, e_M2, e_K, e_cons, e_cons1, e_cons2, e_nil, e_V, List.getElem?_cons_zero, List.getElem?_cons_succ, j]
theorem inl_cells {g : List (List (List Nat))} {n : Nat} (hn : n = g.length) : vw (cellsZ g) (.lst (refsN n)) = some (kLs (kLs D.str) g) ∨ n = 0 := by
  subst hn
  cases g with
  | nil => exact .inr rfl
  | cons x g =>
    left
    have nn : nr (.lst (refsN (x :: g).length)) = false := by
      show nrs (refsN (g.length + 1)) = false
      unfold refsN
      rw [List.range_succ_eq_map]
      rfl
    unfold vw
    rw [if_neg (by rw [nn]; simp)]
    show (mapO (inl true (cellsZ (x :: g)) 11) (refsN (x :: g).length)).map D.lst = _
    have : ∀ (ns : List Nat), (∀ i ∈ ns, i < (x :: g).length) → mapO (inl true (cellsZ (x :: g)) 11) (ns.map D.ref) = some (ns.map fun i => kLs D.str ((x :: g).getD i [])) := by
      intro ns
      induction ns with
      | nil => intro _; rfl
      | cons i ns ih =>
        intro hb
        have hi := hb i (by simp)
        have c : (cellsZ (x :: g))[i]? = some (.lst (((x :: g).getD i []).map D.str)) := by
          unfold cellsZ
          rw [List.getElem?_map, List.getElem?_eq_getElem hi, List.getD_eq_getElem?_getD, List.getElem?_eq_getElem hi]; rfl
        have e1 : inl true (cellsZ (x :: g)) 11 (.ref i) = some (kLs D.str ((x :: g).getD i [])) := by
          unfold inl
          rw [c]
          show (mapO (inl true (cellsZ (x :: g)) 10) _).map D.lst = _
          rw [mapO_map (f := inl true (cellsZ (x :: g)) 10) (k := D.str) fun b => rfl]; rfl
        rw [List.map_cons]; unfold mapO; rw [e1, ih fun j hj => hb j (by simp [hj])]; rfl
    have t := this (List.range (x :: g).length) fun i hi => List.mem_range.mp hi
    have e2 : (List.range (x :: g).length).map (fun i => kLs D.str ((x :: g).getD i [])) = (x :: g).map (kLs D.str) := by
      apply List.ext_getElem
      · simp
      · intro i a b
        simp at a
        rw [List.getElem_map, List.getElem_map, List.getElem_range, List.getD_eq_getElem?_getD, List.getElem?_eq_getElem (by simp; omega)]; rfl
    rw [e2] at t
    show Option.map D.lst (mapO _ ((List.range (x :: g).length).map D.ref)) = _
    rw [t]; rfl
/-- def grid(rows, laying) -/
theorem tf_grid : TF false false (fun a : List (List Nat) × List Tri × Unit => [kTp D.str a.1, kTp kTri a.2.1]) (kLs (kLs D.str)) (bodyF 6 (sSeq (sSet 2 (cLc false (.nm 3) (iVal (cV 0)) tTrue zNew [3])) (sSeq (sFor (.tp [.nm 3, .nm 4, .nm 5]) (iVal (cV 1)) zBody) (sRet (cV 2))))) (fun a => gridZ a.1 a.2.1) := fun ⟨rows, L, _⟩ => by
  dsimp only
  unfold gridZ
  refine Sim.gd fun ⟨h1, h2, h3⟩ => ?_
  cases h : laidZ (rows.map sgs) L with
  | ok g =>
    have hl := laidZ_len h
    rw [List.length_map] at hl
    have a1 := z_new h1 h2 (some (kTp D.str rows)) (some (kTp kTri L)) none none none
    obtain ⟨p3, p4, p5, a2⟩ := z_loop L L 0 fuel (rows.map sgs) g (some (kTp D.str rows)) (some (kTp kTri L)) none none none h rfl (Nat.lt_of_le_of_lt h3 (by have := fuel_ge; unfold lineN; omega))
    rw [List.length_map] at a2
    refine ⟨.lst (refsN rows.length), cellsZ g, ?_, ?_, fun z => by cases z⟩
    · show ofOt ((sSeq _ _) [some (kTp D.str rows), some (kTp kTri L), none, none, none, none] []) = _
      have w1 : wp0 [3] [some (kTp D.str rows), some (kTp kTri L), none, none, none, none] = [some (kTp D.str rows), some (kTp kTri L), none, none, none, none] := rfl
      have i1 : ∀ μ, kIV (.ok (kTp D.str rows, μ)) = .ok (.fix (rows.map D.str), μ) := fun _ => rfl
      have i2 : ∀ μ, kIV (.ok (kTp kTri L, μ)) = .ok (.fix (L.map kTri), μ) := fun _ => rfl
      generalize cellsZ (rows.map sgs) = M1 at *
      generalize cellsZ g = M2 at *
      generalize refsN rows.length = RR at *
      generalize kTp D.str rows = A at *
      generalize kTp kTri L = B at *
      generalize L.map kTri = LL at *
      generalize rows.map D.str = RS at *
      simp only [e_seq, e_seq_nx, e_set, e_set1, e_lc, e_lc1, e_lc2, e_iVal, e_V, List.getElem?_cons_zero, List.getElem?_cons_succ, List.set_cons_zero, List.set_cons_succ, w1, i1, i2, a1, mkL_f, e_for, e_for1, a2, e_ret, e_ret1, ofOt_rt]
    · rcases inl_cells (g := g) (n := rows.length) hl.symm with e | e
      · exact e
      · have : g = [] := List.eq_nil_of_length_eq_zero (by omega)
        subst this
        rw [e]; rfl
  | ex c ds => exact fun z => by cases z
  | no => trivial
/-- Board.laid(self, laying) -/
theorem tf_laid {c : Nat} {O : Type} {ko : O → List D} {dd : Dt} [KnL ko dd] {F : GF} {A B : Type} {kA : A → D} {kB : B → D} {dA dB : Dt} [Kn kA dA] [Kn kB dB] {f : List (List Nat) × A × B × Unit → R O} {pr : O → List (List Nat)} {pm : O → A} {pb : O → B}
    (h0 : ∀ o, (ko o)[0]? = some (kTp D.str (pr o))) (h1 : ∀ o, (ko o)[1]? = some (kA (pm o))) (h2 : ∀ o, (ko o)[2]? = some (kB (pb o)))
    (hf : TFI c (fun a : List (List Nat) × A × B × Unit => [kTp D.str a.1, kA a.2.1, kB a.2.2.1]) ko F f) :
    TF false false (fun a : O × List Tri × Unit => [kObj c ko a.1, kTp kTri a.2.1]) (kObj c ko) (bodyF 6 (sSeq (sSet 2 (cLc false (.nm 3) (iVal (cU (dFld c 0) (cV 0))) tTrue zNew [3])) (sSeq (sFor (.tp [.nm 3, .nm 4, .nm 5]) (iVal (cV 1)) zBody)
      (sRet (cF (makeF c F) (cCons (cF dTuple (cCons (cLc false (.nm 3) (iVal (cV 2)) tTrue zJoin [3]) cNil)) (cCons (cU (dFld c 1) (cV 0)) (cCons (cU (dFld c 2) (cV 0)) cNil))))))))
      (fun a => (laidT (pr a.1) a.2.1).bind fun r => f (r, pm a.1, pb a.1, ())) := fun ⟨o, L, _⟩ => by
  dsimp only
  unfold laidT gridZ
  refine Sim.bind.mpr ?_
  refine Sim.bind.mpr ?_
  refine Sim.gd fun ⟨g1, g2, g3⟩ => ?_
  cases h : laidZ ((pr o).map sgs) L with
  | ok g =>
    show Sim false (R.gd _ _) _ _
    refine Sim.gd fun g4 => ?_
    show Sim false (f _) _ _
    have hf := hf (g.map List.flatten, pm o, pb o, ())
    revert hf
    cases hv : f (g.map List.flatten, pm o, pb o, ()) with
    | ok v =>
      rintro ⟨μ', q1, q2⟩
      have hl := laidZ_len h
      rw [List.length_map] at hl
      have a1 := z_new g1 g2 (some (kObj c ko o)) (some (kTp kTri L)) none none none
      obtain ⟨p3, p4, p5, a2⟩ := z_loop L L 0 fuel ((pr o).map sgs) g (some (kObj c ko o)) (some (kTp kTri L)) none none none h rfl (Nat.lt_of_le_of_lt g3 (by have := fuel_ge; unfold lineN; omega))
      rw [List.length_map] at a2
      have a3 := z_join (g := g) (by rw [hl]; exact g1) g4 (some (kObj c ko o)) (some (kTp kTri L)) (some (.lst (refsN (pr o).length))) p4 p5
      rw [hl] at a3
      have mk : ∀ μ, makeF c F [kTp D.str (g.map List.flatten), kA (pm o), kB (pb o)] μ = .ok (kObj c ko v, μ) := fun μ => by
        unfold makeF
        rw [if_pos (nrs2 (Kn.nr (k := kTp D.str) _) (nrs2 (Kn.nr _) (nrs2 (Kn.nr _) rfl))), q1]
        simp only [q2]
        rfl
      have f0 : ∀ μ, dFld c 0 (kObj c ko o) μ = .ok (kTp D.str (pr o), μ) := fun μ => by show dFld c 0 (.obj c (ko o)) μ = _; rw [d_fldO, h0]
      have f1 : ∀ μ, dFld c 1 (kObj c ko o) μ = .ok (kA (pm o), μ) := fun μ => by show dFld c 1 (.obj c (ko o)) μ = _; rw [d_fldO, h1]
      have f2 : ∀ μ, dFld c 2 (kObj c ko o) μ = .ok (kB (pb o), μ) := fun μ => by show dFld c 2 (.obj c (ko o)) μ = _; rw [d_fldO, h2]
      refine ⟨kObj c ko v, cellsZ g, ?_, vw_kn (k := kObj c ko) v _, fun z => by cases z⟩
      show ofOt ((sSeq _ _) [some (kObj c ko o), some (kTp kTri L), none, none, none, none] []) = _
      have w1 : wp0 [3] [some (kObj c ko o), some (kTp kTri L), none, none, none, none] = [some (kObj c ko o), some (kTp kTri L), none, none, none, none] := rfl
      have w2 : wp0 [3] [some (kObj c ko o), some (kTp kTri L), some (.lst (refsN (pr o).length)), p3, p4, p5] = [some (kObj c ko o), some (kTp kTri L), some (.lst (refsN (pr o).length)), none, p4, p5] := rfl
      have i1 : ∀ μ, kIV (.ok (kTp D.str (pr o), μ)) = .ok (.fix ((pr o).map D.str), μ) := fun _ => rfl
      have i2 : ∀ μ, kIV (.ok (kTp kTri L, μ)) = .ok (.fix (L.map kTri), μ) := fun _ => rfl
      have i3 : ∀ ds μ, kIV (.ok (D.lst ds, μ)) = .ok (.fix ds, μ) := fun _ _ => rfl
      have tt : ∀ μ, dTuple [.lst ((g.map List.flatten).map D.str)] μ = .ok (kTp D.str (g.map List.flatten), μ) := fun _ => rfl
      generalize kTp D.str (g.map List.flatten) = T0 at *
      generalize (g.map List.flatten).map D.str = T1 at *
      generalize cellsZ ((pr o).map sgs) = M1 at *
      generalize cellsZ g = M2 at *
      generalize refsN (pr o).length = RR at *
      generalize kTp D.str (pr o) = A0 at *
      generalize kObj c ko o = OO at *
      generalize kObj c ko v = OV at *
      generalize kTp kTri L = B0 at *
      generalize L.map kTri = LL at *
      generalize (pr o).map D.str = RS at *
      generalize kA (pm o) = KA at *
      generalize kB (pb o) = KB at *
      simp only [e_seq, e_seq_nx, e_set, e_set1, e_lc, e_lc1, e_lc2, e_iVal, e_U, e_U1, f0, f1, f2, e_V, List.getElem?_cons_zero, List.getElem?_cons_succ, List.set_cons_zero, List.set_cons_succ, w1, w2, i1, i2, i3, a1, mkL_f, e_for, e_for1, a2, a3, e_F, e_F1, e_cons, e_cons1, e_cons2, e_nil, tt, mk, e_ret, e_ret1, ofOt_rt]
    | ex c ds => exact fun _ z => by cases z
    | no => exact fun _ => trivial
  | ex c ds => exact fun z => by cases z
  | no => trivial
theorem vw_bl {μ : Mu} {d : D} {b : Bool} (h : vw μ d = some (.bl b)) : d = .bl b := by
  unfold vw at h
  split at h
  · exact Option.some.inj h
  · cases d with
    | ref n =>
      unfold inl at h
      split at h <;> first | (cases h; done) | (rw [Option.map_eq_some_iff] at h; obtain ⟨_, _, z⟩ := h; cases z)
    | bl c => unfold inl at h; exact Option.some.inj h
    | non => unfold inl at h; cases h
    | int _ => unfold inl at h; cases h
    | str _ => unfold inl at h; cases h
    | _ => unfold inl at h; (try split at h) <;> first | (cases h; done) | (rw [Option.map_eq_some_iff] at h; obtain ⟨_, _, z⟩ := h; cases z)
theorem law_of_tf {q x : Bool} {F : GF} {f : List Int × Unit → R Bool} (h : TF q x (fun a : List Int × Unit => [kScr a.1]) D.bl F f) (t : ∀ ns : List Int, ns.length ≤ 63 → f (ns, ()) = .ok true) : LawTrue F := fun ns hn => by
  obtain ⟨d, μ', e, v⟩ := h.at (t ns hn)
  cases vw_bl v
  exact ⟨μ', e⟩
end Lr

/-! the mirror of k20 -/
namespace T20
open PySem L2 Lr
noncomputable section
def m_are_rows_b0 : SM := (sIf (tOrD (tNotD (tVal (cU (dIsi "str") (cV 1)))) (tOrD (tNotD (tVal (cCh dLe dLe (cK (.int 1)) (cF dLen (cCons (cV 1) cNil)) (cK (.int 9))))) (tVal (cB dNe (cF dLen (cCons (cV 1) cNil)) (cF dLen (cCons (cB dIx (cV 0) (cK (.int 0))) cNil)))))) (sRet (cK (.bl false))) sNext)
def m_are_rows : SM := (sSeq (sIf (tOrD (tNotD (tVal (cU (dIsi "tuple") (cV 0)))) (tNotD (tVal (cCh dLe dLe (cK (.int 1)) (cF dLen (cCons (cV 0) cNil)) (cK (.int 9)))))) (sRet (cK (.bl false))) sNext)
  (sSeq (sFor (.nm 1) (iVal (cV 0)) m_are_rows_b0)
  (sRet (cK (.bl true)))))
def F_are_rows : GF := bodyF 2 m_are_rows
def m_is_whole : SM := (sRet (cAndD (cU (dIsi "int") (cV 0)) (cU dNot (cU (dIsi "bool") (cV 0)))))
def F_is_whole : GF := bodyF 1 m_is_whole
def m_is_cell : SM := (sSeq (sIf (tOrD (tNotD (tVal (cU (dIsi "tuple") (cV 1)))) (tOrD (tVal (cB dNe (cF dLen (cCons (cV 1) cNil)) (cK (.int 2)))) (tOrD (tNotD (tVal (cF (pureC F_is_whole) (cCons (cB dIx (cV 1) (cK (.int 0))) cNil)))) (tNotD (tVal (cF (pureC F_is_whole) (cCons (cB dIx (cV 1) (cK (.int 1))) cNil))))))) (sRet (cK (.bl false))) sNext)
  (sRet (cAndD (cCh dLe dLt (cK (.int 0)) (cB dIx (cV 1) (cK (.int 0))) (cF dLen (cCons (cV 0) cNil))) (cCh dLe dLt (cK (.int 0)) (cB dIx (cV 1) (cK (.int 1))) (cF dLen (cCons (cB dIx (cV 0) (cK (.int 0))) cNil))))))
def F_is_cell : GF := bodyF 2 m_is_cell
def m_is_sign : SM := (sRet (cAndD (cU (dIsi "str") (cV 0)) (cAndD (cB dEq (cF dLen (cCons (cV 0) cNil)) (cK (.int 1))) (cB dIn (cV 0) (cB (dAdd false) (cK (.str lowL)) (cK (.str upL)))))))
def F_is_sign : GF := bodyF 1 m_is_sign
def m_Board___init___e0 : M := (cOrD (cB dEq (cV 4) (cK (.str [46]))) (cF (pureC F_is_sign) (cCons (cV 4) cNil)))
def m_Board___init___e1 : M := (cB dIn (cV 5) (cK (.str [46, 50, 51, 52, 98, 99, 100])))
def m_Board___init__ : SM := (sSeq (sIf (tOrD (tNotD (tVal (cF (pureC F_are_rows) (cCons (cV 1) cNil)))) (tNotD (tVal (cF (pureC F_are_rows) (cCons (cV 2) cNil))))) sNo sNext)
  (sSeq (sIf (tOrD (tVal (cB dNe (cF dLen (cCons (cV 1) cNil)) (cF dLen (cCons (cV 2) cNil)))) (tOrD (tVal (cB dNe (cF dLen (cCons (cB dIx (cV 1) (cK (.int 0))) cNil)) (cF dLen (cCons (cB dIx (cV 2) (cK (.int 0))) cNil)))) (tNotD (tVal (cF (pureC F_is_cell) (cCons (cV 1) (cCons (cV 3) cNil))))))) sNo sNext)
  (sSeq (sIf (tNotD (tVal (cF (dBools fun bs => bs.all id) (cCons (cLc false (.nm 4) (iVal (cM "str" mJoin (cK (.str [])) (cCons (cV 1) cNil))) tTrue m_Board___init___e0 [4]) cNil)))) sNo sNext)
  (sSeq (sIf (tNotD (tVal (cF (dBools fun bs => bs.all id) (cCons (cLc false (.nm 5) (iVal (cM "str" mJoin (cK (.str [])) (cCons (cV 2) cNil))) tTrue m_Board___init___e1 [5]) cNil)))) sNo sNext)
  (sSeq (sFl 0 0 (cV 0) (cV 1))
  (sSeq (sFl 0 1 (cV 0) (cV 2))
  (sFl 0 2 (cV 0) (cV 3))))))))
def F_Board___init__ : GF := bodyF 6 m_Board___init__
def m__law_alike_e0 (rec__law_alike : GF) : M := (cF (pureC rec__law_alike) (cCons (cV 2) (cCons (cV 3) cNil)))
def m__law_alike (rec__law_alike : GF) : SM := (sSeq (sIf (tVal (cU (dIsi "tuple") (cV 1))) (sSeq (sIf (tOrD (tNotD (tVal (cU (dIsi "tuple") (cV 0)))) (tVal (cB dNe (cF dLen (cCons (cV 0) cNil)) (cF dLen (cCons (cV 1) cNil))))) (sRet (cK (.bl false))) sNext)
  (sRet (cF (dBools fun bs => bs.all id) (cCons (cLc false (.tp [(.nm 2), (.nm 3)]) (iZip (cCons (cV 0) (cCons (cV 1) cNil))) tTrue (m__law_alike_e0 rec__law_alike) [2, 3]) cNil)))) sNext)
  (sSeq (sIf (tVal (cU (dIsi "str") (cV 1))) (sRet (cAndD (cU (dIsi "str") (cV 0)) (cB dEq (cV 0) (cV 1)))) sNext)
  (sSeq (sIf (tVal (cU (dIsi "bool") (cV 1))) (sRet (cAndD (cU (dIsi "bool") (cV 0)) (cB dEq (cV 0) (cV 1)))) sNext)
  (sRet (cAndD (cU (dIsi "int") (cV 0)) (cAndD (cU dNot (cU (dIsi "bool") (cV 0))) (cB dEq (cV 0) (cV 1))))))))
def R__law_alike : Nat → GF
  | 0 => fun _ _ => .no
  | k + 1 => bodyF 4 (m__law_alike (R__law_alike k))
def F__law_alike : GF := R__law_alike 12
def m__law_cell_at : SM := (sSeq (sIf (tVal (cB dLt (cV 1) (cF dLen (cCons (cV 0) cNil)))) (sRet (cB dIx (cV 0) (cV 1))) sNext)
  (sRet (cK (.int 0))))
def F__law_cell_at : GF := bodyF 2 m__law_cell_at
def m__law_draw : SM := (sSeq (sSet 2 (cB dMod (cB (dAdd false) (cB (dAdd false) (cB (dAdd false) (cB (dMul false) (cB dMod (cV 0) (cK (.int 2147483647))) (cK (.int 48271))) (cB (dMul false) (cB (dMul false) (cK (.int 7919)) (cV 1)) (cV 1))) (cB (dMul false) (cK (.int 101)) (cV 1))) (cK (.int 11))) (cK (.int 2147483629))))
  (sSeq (sSet 2 (cB dMod (cB (dAdd false) (cB (dMul false) (cV 2) (cK (.int 69621))) (cB (dMul false) (cK (.int 7)) (cV 1))) (cK (.int 2147483587))))
  (sRet (cB (dAdd false) (cV 2) (cB (dMul false) (cK (.int 2147483587)) (cB dMod (cB dDiv (cV 0) (cB (dAdd false) (cV 1) (cK (.int 2)))) (cB dPow (cK (.int 10)) (cK (.int 61)))))))))
def F__law_draw : GF := bodyF 3 m__law_draw
def m__law_letters_e0 : M := (cB dIx (cV 1) (cB dMod (cB (dAdd false) (cB dDiv (cV 0) (cK (.int 48))) (cB (dMul false) (cV 3) (cV 2))) (cK (.int 26))))
def m__law_letters : SM := (sSeq (sSet 1 (cK (.str lowL)))
  (sSeq (sIf (tVal (cB dEq (cB dMod (cV 0) (cK (.int 8))) (cK (.int 5)))) (sRet (cV 1)) sNext)
  (sSeq (sSet 2 (cB dIx (cLst false (cCons (cK (.int 1)) (cCons (cK (.int 3)) (cCons (cK (.int 5)) (cCons (cK (.int 7)) (cCons (cK (.int 9)) (cCons (cK (.int 11)) cNil))))))) (cB dMod (cB dDiv (cV 0) (cK (.int 8))) (cK (.int 6)))))
  (sRet (cM "str" mJoin (cK (.str [])) (cCons (cLc false (.nm 3) (iRange1 (cCons (cB (dAdd false) (cK (.int 2)) (cB dMod (cB dDiv (cV 0) (cK (.int 7))) (cK (.int 3)))) cNil)) tTrue m__law_letters_e0 [3]) cNil))))))
def F__law_letters : GF := bodyF 4 m__law_letters
def m__law_marks_b0 : SM := (sSeq (sSet 6 (cF (pureC F__law_draw) (cCons (cV 1) (cCons (cB (dAdd false) (cB (dAdd false) (cK (.int 100)) (cB (dMul false) (cK (.int 9)) (cV 3))) (cV 5)) cNil))))
  (sSet 4 (cB (dAdd false) (cV 4) (cB dIx (cB (dAdd false) (cK (.str [50, 51, 52, 98, 99, 100])) (cB (dMul false) (cK (.str [46])) (cK (.int 12)))) (cB dMod (cV 6) (cK (.int 18)))))))
def m__law_marks_b1 : SM := (sSeq (sSet 4 (cK (.str [])))
  (sSeq (sFor (.nm 5) (iRange1 (cCons (cF dLen (cCons (cB dIx (cV 0) (cK (.int 0))) cNil)) cNil)) m__law_marks_b0)
  (sExpr (cM "list" mAppend (cV 2) (cCons (cV 4) cNil)))))
def m__law_marks : SM := (sSeq (sSet 2 (cLst true cNil))
  (sSeq (sFor (.nm 3) (iRange1 (cCons (cF dLen (cCons (cV 0) cNil)) cNil)) m__law_marks_b1)
  (sRet (cF dTuple (cCons (cV 2) cNil)))))
def F__law_marks : GF := bodyF 7 m__law_marks
def m__law_sign : SM := (sSeq (sSet 2 (cB dIx (cV 1) (cB dMod (cV 0) (cF dLen (cCons (cV 1) cNil)))))
  (sSeq (sIf (tVal (cB dEq (cB dMod (cB dDiv (cV 0) (cK (.int 64))) (cK (.int 5))) (cK (.int 1)))) (sRet (cM "str" mUpper (cV 2) cNil)) sNext)
  (sRet (cV 2))))
def F__law_sign : GF := bodyF 3 m__law_sign
def m__law_rows_b0 : SM := (sSeq (sSet 15 (cF (pureC F__law_draw) (cCons (cV 5) (cCons (cB (dAdd false) (cB (dAdd false) (cK (.int 10)) (cB (dMul false) (cK (.int 9)) (cV 9))) (cV 14)) cNil))))
  (sSeq (sIf (tVal (cB dEq (cB dMod (cB dDiv (cV 5) (cK (.int 8))) (cK (.int 2))) (cK (.int 1)))) (sSeq (sSet 15 (cB dMod (cV 7) (cK (.int 2000))))
  (sSet 7 (cB dDiv (cV 7) (cK (.int 2000))))) sNext)
  (sIf (tVal (cB dLt (cB dMod (cV 15) (cK (.int 6))) (cV 6))) (sSet 13 (cB (dAdd false) (cV 13) (cF (pureC F__law_sign) (cCons (cB dDiv (cV 15) (cK (.int 6))) (cCons (cV 1) cNil))))) (sSet 13 (cB (dAdd false) (cV 13) (cK (.str [46])))))))
def m__law_rows_b1 : SM := (sSeq (sSet 13 (cK (.str [])))
  (sSeq (sFor (.nm 14) (iRange1 (cCons (cV 4) cNil)) m__law_rows_b0)
  (sExpr (cM "list" mAppend (cV 8) (cCons (cV 13) cNil)))))
def m__law_rows : SM := (sSeq (sSet 2 (cF (pureC F__law_cell_at) (cCons (cV 0) (cCons (cK (.int 1)) cNil))))
  (sSeq (sSet 3 (cB (dAdd false) (cK (.int 1)) (cB dMod (cV 2) (cK (.int 6)))))
  (sSeq (sSet 4 (cB (dAdd false) (cK (.int 1)) (cB dMod (cB dDiv (cV 2) (cK (.int 6))) (cK (.int 6)))))
  (sSeq (sIf (tVal (cB dEq (cB dMod (cB dDiv (cV 2) (cK (.int 36))) (cK (.int 8))) (cK (.int 3)))) (sSeq (sSet 3 (cB (dAdd false) (cK (.int 1)) (cB dMod (cB dDiv (cV 2) (cK (.int 288))) (cK (.int 9)))))
  (sSet 4 (cB (dAdd false) (cK (.int 1)) (cB dMod (cB dDiv (cV 2) (cK (.int 2592))) (cK (.int 9)))))) sNext)
  (sSeq (sSet 5 (cF (pureC F__law_cell_at) (cCons (cV 0) (cCons (cK (.int 2)) cNil))))
  (sSeq (sSet 6 (cB dIx (cLst false (cCons (cK (.int 0)) (cCons (cK (.int 1)) (cCons (cK (.int 1)) (cCons (cK (.int 2)) (cCons (cK (.int 2)) (cCons (cK (.int 3)) (cCons (cK (.int 4)) (cCons (cK (.int 1)) cNil))))))))) (cB dMod (cV 5) (cK (.int 8)))))
  (sSeq (sSet 7 (cB dDiv (cV 5) (cK (.int 16))))
  (sSeq (sSet 8 (cLst true cNil))
  (sSeq (sFor (.nm 9) (iRange1 (cCons (cV 3) cNil)) m__law_rows_b1)
  (sSeq (sSet 10 (cB dMod (cB dDiv (cV 2) (cK (.int 7))) (cB (dMul false) (cV 3) (cV 4))))
  (sSeq (sSet 9 (cB dDiv (cV 10) (cV 4)))
  (sSeq (sSet 11 (cB dIx (cV 8) (cV 9)))
  (sSeq (sSet 12 (cB dMod (cV 10) (cV 4)))
  (sSeq (sSub (cV 8) (cV 9) (cB (dAdd false) (cB (dAdd false) (cSl false (cV 11) oNone (oSome (cV 12))) (cK (.str [46]))) (cSl false (cV 11) (oSome (cB (dAdd false) (cV 12) (cK (.int 1)))) oNone)))
  (sRet (cF dTuple (cCons (cV 8) cNil)))))))))))))))))
def F__law_rows : GF := bodyF 16 m__law_rows
def m__law_is_near_b0 : SM := (sIf (tAndD (tVal (cCh dLe dLt (cK (.int 0)) (cB dIx (cV 3) (cK (.int 0))) (cF dLen (cCons (cV 0) cNil)))) (tAndD (tVal (cCh dLe dLt (cK (.int 0)) (cB dIx (cV 3) (cK (.int 1))) (cF dLen (cCons (cB dIx (cV 0) (cK (.int 0))) cNil)))) (tVal (cB dNe (cB dIx (cB dIx (cV 0) (cB dIx (cV 3) (cK (.int 0)))) (cB dIx (cV 3) (cK (.int 1)))) (cK (.str [46])))))) (sRet (cK (.bl true))) sNext)
def m__law_is_near : SM := (sSeq (sFor (.nm 3) (iVal (cLst false (cCons (cTup (cCons (cB dSub (cV 1) (cK (.int 1))) (cCons (cV 2) cNil))) (cCons (cTup (cCons (cV 1) (cCons (cB dSub (cV 2) (cK (.int 1))) cNil))) (cCons (cTup (cCons (cV 1) (cCons (cB (dAdd false) (cV 2) (cK (.int 1))) cNil))) (cCons (cTup (cCons (cB (dAdd false) (cV 1) (cK (.int 1))) (cCons (cV 2) cNil))) cNil)))))) m__law_is_near_b0)
  (sRet (cK (.bl false))))
def F__law_is_near : GF := bodyF 4 m__law_is_near
def m__law_starts_b0 : SM := (sIf (tVal (cB dEq (cB dIx (cB dIx (cV 0) (cV 4)) (cV 5)) (cK (.str [46])))) (sSeq (sExpr (cM "list" mAppend (cV 2) (cCons (cTup (cCons (cV 4) (cCons (cV 5) cNil))) cNil)))
  (sIf (tVal (cF (pureC F__law_is_near) (cCons (cV 0) (cCons (cV 4) (cCons (cV 5) cNil))))) (sExpr (cM "list" mAppend (cV 3) (cCons (cTup (cCons (cV 4) (cCons (cV 5) cNil))) cNil))) sNext)) sNext)
def m__law_starts_b1 : SM := (sFor (.nm 5) (iRange1 (cCons (cF dLen (cCons (cB dIx (cV 0) (cK (.int 0))) cNil)) cNil)) m__law_starts_b0)
def m__law_starts : SM := (sSeq (sSet 2 (cLst true cNil))
  (sSeq (sSet 3 (cLst true cNil))
  (sSeq (sFor (.nm 4) (iRange1 (cCons (cF dLen (cCons (cV 0) cNil)) cNil)) m__law_starts_b1)
  (sSeq (sIf (tAndD (tVal (cB dNe (cV 3) (cLst false cNil))) (tVal (cB dGt (cB dMod (cV 1) (cK (.int 4))) (cK (.int 0))))) (sRet (cB dIx (cV 3) (cB dMod (cB dDiv (cV 1) (cK (.int 4))) (cF dLen (cCons (cV 3) cNil))))) sNext)
  (sRet (cB dIx (cV 2) (cB dMod (cB dDiv (cV 1) (cK (.int 4))) (cF dLen (cCons (cV 2) cNil)))))))))
def F__law_starts : GF := bodyF 6 m__law_starts
def m__law_straight_w0 : SM := (sSeq (sIf (tVal (cB dEq (cB dIx (cB dIx (cV 0) (cV 8)) (cV 9)) (cK (.str [46])))) (sSeq (sSet 10 (cF (pureC F__law_draw) (cCons (cV 1) (cCons (cB (dAdd false) (cF dLen (cCons (cV 5) cNil)) (cK (.int 3))) cNil))))
  (sSeq (sIf (tVal (cB dEq (cB dMod (cB dDiv (cV 1) (cK (.int 2048))) (cK (.int 2))) (cK (.int 1)))) (sSeq (sSet 10 (cB dMod (cV 7) (cK (.int 2000))))
  (sSet 7 (cB dDiv (cV 7) (cK (.int 2000))))) sNext)
  (sSeq (sSet 11 (cF (pureC F__law_sign) (cCons (cV 10) (cCons (cV 2) cNil))))
  (sSeq (sIf (tVal (cB dEq (cV 6) (cK (.int 2)))) (sSet 11 (cM "str" mLower (cV 11) cNil)) sNext)
  (sSeq (sSet 6 (cB (dAdd false) (cV 6) (cF dInt (cCons (cB dNe (cV 11) (cM "str" mLower (cV 11) cNil)) cNil))))
  (sExpr (cM "list" mAppend (cV 5) (cCons (cTup (cCons (cV 8) (cCons (cV 9) (cCons (cV 11) cNil)))) cNil)))))))) sNext)
  (sSeq (sSet 8 (cB (dAdd false) (cV 8) (cV 4)))
  (sSet 9 (cB dSub (cB (dAdd false) (cV 9) (cK (.int 1))) (cV 4)))))
def m__law_straight : SM := (sSeq (sSet 4 (cB dMod (cV 1) (cK (.int 2))))
  (sSeq (sAsg (.tp [(.nm 8), (.nm 9)]) (cF (pureC F__law_starts) (cCons (cV 0) (cCons (cB dDiv (cV 1) (cK (.int 2))) cNil))))
  (sSeq (sSet 5 (cLst true cNil))
  (sSeq (sSet 6 (cK (.int 0)))
  (sSeq (sSet 7 (cB dDiv (cV 1) (cK (.int 4096))))
  (sSeq (sWhile (tAndD (tVal (cB dLt (cV 8) (cF dLen (cCons (cV 0) cNil)))) (tAndD (tVal (cB dLt (cV 9) (cF dLen (cCons (cB dIx (cV 0) (cK (.int 0))) cNil)))) (tVal (cB dLt (cF dLen (cCons (cV 5) cNil)) (cV 3))))) m__law_straight_w0)
  (sRet (cF dTuple (cCons (cV 5) cNil)))))))))
def F__law_straight : GF := bodyF 12 m__law_straight
def m__law_grid_e0 : M := (cF (dListA true) (cCons (cV 3) cNil))
def m__law_grid_b1 : SM := (sSub (cB dIx (cV 2) (cV 3)) (cV 4) (cV 5))
def m__law_grid : SM := (sSeq (sSet 2 (cLc false (.nm 3) (iVal (cV 0)) tTrue m__law_grid_e0 [3]))
  (sSeq (sFor (.tp [(.nm 3), (.nm 4), (.nm 5)]) (iVal (cV 1)) m__law_grid_b1)
  (sRet (cV 2))))
def F__law_grid : GF := bodyF 6 m__law_grid
def m__law_run_w0 : SM := (sSeq (sSet 1 (cB dSub (cV 1) (cV 3)))
  (sSet 2 (cB (dAdd false) (cB dSub (cV 2) (cK (.int 1))) (cV 3))))
def m__law_run_w1 : SM := (sSeq (sSet 4 (cB (dAdd false) (cV 4) (cB dIx (cB dIx (cV 0) (cB dIx (cV 5) (cK (.int 0)))) (cB dIx (cV 5) (cK (.int 1))))))
  (sSet 5 (cTup (cCons (cB (dAdd false) (cB dIx (cV 5) (cK (.int 0))) (cV 3)) (cCons (cB dSub (cB (dAdd false) (cB dIx (cV 5) (cK (.int 1))) (cK (.int 1))) (cV 3)) cNil)))))
def m__law_run : SM := (sSeq (sWhile (tAndD (tVal (cB dGe (cV 1) (cV 3))) (tAndD (tVal (cB dGe (cV 2) (cB dSub (cK (.int 1)) (cV 3)))) (tVal (cB dNe (cB dIx (cB dIx (cV 0) (cB dSub (cV 1) (cV 3))) (cB (dAdd false) (cB dSub (cV 2) (cK (.int 1))) (cV 3))) (cK (.str [46])))))) m__law_run_w0)
  (sSeq (sSet 4 (cK (.str [])))
  (sSeq (sSet 5 (cTup (cCons (cV 1) (cCons (cV 2) cNil))))
  (sSeq (sWhile (tAndD (tVal (cB dLt (cB dIx (cV 5) (cK (.int 0))) (cF dLen (cCons (cV 0) cNil)))) (tAndD (tVal (cB dLt (cB dIx (cV 5) (cK (.int 1))) (cF dLen (cCons (cB dIx (cV 0) (cK (.int 0))) cNil)))) (tVal (cB dNe (cB dIx (cB dIx (cV 0) (cB dIx (cV 5) (cK (.int 0)))) (cB dIx (cV 5) (cK (.int 1)))) (cK (.str [46])))))) m__law_run_w1)
  (sRet (cTup (cCons (cV 1) (cCons (cV 2) (cCons (cV 3) (cCons (cV 4) cNil))))))))))
def F__law_run : GF := bodyF 6 m__law_run
def m__law_words_b0 : SM := (sExpr (cM "list" mAppend (cV 4) (cCons (cF (pureC F__law_run) (cCons (cV 2) (cCons (cV 5) (cCons (cV 6) (cCons (cB dSub (cK (.int 1)) (cV 3)) cNil))))) cNil)))
def m__law_words_e1 : M := (cV 8)
def m__law_words : SM := (sSeq (sSet 2 (cF (pureC F__law_grid) (cCons (cV 0) (cCons (cV 1) cNil))))
  (sSeq (sSet 3 (cF dInt (cCons (cB dNe (cB dIx (cB dIx (cV 1) (cK (.int 0))) (cK (.int 0))) (cB dIx (cB dIx (cV 1) (cU dNeg (cK (.int 1)))) (cK (.int 0)))) cNil)))
  (sSeq (sSet 4 (cLst true (cCons (cF (pureC F__law_run) (cCons (cV 2) (cCons (cB dIx (cB dIx (cV 1) (cK (.int 0))) (cK (.int 0))) (cCons (cB dIx (cB dIx (cV 1) (cK (.int 0))) (cK (.int 1))) (cCons (cV 3) cNil))))) cNil)))
  (sSeq (sFor (.tp [(.nm 5), (.nm 6), (.nm 7)]) (iVal (cV 1)) m__law_words_b0)
  (sRet (cF dTuple (cCons (cLc false (.nm 8) (iVal (cV 4)) (tVal (cB dGt (cF dLen (cCons (cB dIx (cV 8) (cK (.int 3))) cNil)) (cK (.int 1)))) m__law_words_e1 [8]) cNil)))))))
def F__law_words : GF := bodyF 9 m__law_words
def m_Board_laid_e0 : M := (cF (dListA true) (cCons (cV 3) cNil))
def m_Board_laid_b1 : SM := (sSub (cB dIx (cV 2) (cV 3)) (cV 4) (cV 5))
def m_Board_laid_e2 : M := (cM "str" mJoin (cK (.str [])) (cCons (cV 3) cNil))
def m_Board_laid : SM := (sSeq (sSet 2 (cLc false (.nm 3) (iVal (cU (dFld 0 0) (cV 0))) tTrue m_Board_laid_e0 [3]))
  (sSeq (sFor (.tp [(.nm 3), (.nm 4), (.nm 5)]) (iVal (cV 1)) m_Board_laid_b1)
  (sRet (cF (makeF 0 F_Board___init__) (cCons (cF dTuple (cCons (cLc false (.nm 3) (iVal (cV 2)) tTrue m_Board_laid_e2 [3]) cNil)) (cCons (cU (dFld 0 1) (cV 0)) (cCons (cU (dFld 0 2) (cV 0)) cNil)))))))
def F_Board_laid : GF := bodyF 6 m_Board_laid
def m_Board_at : SM := (sSeq (sIf (tOrD (tNotD (tVal (cCh dLe dLt (cK (.int 0)) (cV 1) (cF dLen (cCons (cU (dFld 0 0) (cV 0)) cNil))))) (tNotD (tVal (cCh dLe dLt (cK (.int 0)) (cV 2) (cF dLen (cCons (cB dIx (cU (dFld 0 0) (cV 0)) (cK (.int 0))) cNil)))))) (sRet (cK (.str [46]))) sNext)
  (sRet (cB dIx (cB dIx (cU (dFld 0 0) (cV 0)) (cV 1)) (cV 2))))
def F_Board_at : GF := bodyF 3 m_Board_at
def m_Board_run_w0 : SM := (sSeq (sAug 1 dISub (cV 4))
  (sAug 2 dISub (cV 5)))
def m_Board_run_w1 : SM := (sAug 6 dIAdd (cMt 0 (pureC F_Board_at) (cV 0) (cCons (cB (dAdd false) (cV 1) (cB (dMul false) (cV 4) (cF dLen (cCons (cV 6) cNil)))) (cCons (cB (dAdd false) (cV 2) (cB (dMul false) (cV 5) (cF dLen (cCons (cV 6) cNil)))) cNil))))
def m_Board_run : SM := (sSeq (sSet 4 (cV 3))
  (sSeq (sSet 5 (cB dSub (cK (.int 1)) (cV 3)))
  (sSeq (sWhile (tVal (cB dNe (cMt 0 (pureC F_Board_at) (cV 0) (cCons (cB dSub (cV 1) (cV 4)) (cCons (cB dSub (cV 2) (cV 5)) cNil))) (cK (.str [46])))) m_Board_run_w0)
  (sSeq (sSet 6 (cK (.str [])))
  (sSeq (sWhile (tVal (cB dNe (cMt 0 (pureC F_Board_at) (cV 0) (cCons (cB (dAdd false) (cV 1) (cB (dMul false) (cV 4) (cF dLen (cCons (cV 6) cNil)))) (cCons (cB (dAdd false) (cV 2) (cB (dMul false) (cV 5) (cF dLen (cCons (cV 6) cNil)))) cNil))) (cK (.str [46])))) m_Board_run_w1)
  (sRet (cTup (cCons (cV 1) (cCons (cV 2) (cCons (cV 6) cNil))))))))))
def F_Board_run : GF := bodyF 7 m_Board_run
def m_way_of : SM := (sRet (cF dInt (cCons (cB dNe (cB dIx (cB dIx (cV 0) (cK (.int 0))) (cK (.int 0))) (cB dIx (cB dIx (cV 0) (cU dNeg (cK (.int 1)))) (cK (.int 0)))) cNil)))
def F_way_of : GF := bodyF 1 m_way_of
def m_formed_e0 : M := (cTup (cCons (cV 6) (cCons (cB dSub (cK (.int 1)) (cV 3)) cNil)))
def m_formed_b1 : SM := (sSeq (sAsg (.tp [(.nm 8), (.nm 9), (.nm 10)]) (cMt 0 (pureC F_Board_run) (cV 2) (cCons (cB dIx (cV 6) (cK (.int 0))) (cCons (cB dIx (cV 6) (cK (.int 1))) (cCons (cV 7) cNil)))))
  (sIf (tVal (cB dGt (cF dLen (cCons (cV 10) cNil)) (cK (.int 1)))) (sExpr (cM "list" mAppend (cV 5) (cCons (cTup (cCons (cV 8) (cCons (cV 9) (cCons (cV 7) (cCons (cV 10) cNil))))) cNil))) sNext))
def m_formed : SM := (sSeq (sSet 2 (cMt 0 (pureC F_Board_laid) (cV 0) (cCons (cV 1) cNil)))
  (sSeq (sSet 3 (cF (pureC F_way_of) (cCons (cV 1) cNil)))
  (sSeq (sSet 4 (cB (dAdd false) (cLst false (cCons (cTup (cCons (cB dIx (cV 1) (cK (.int 0))) (cCons (cV 3) cNil))) cNil)) (cLc false (.nm 6) (iVal (cV 1)) tTrue m_formed_e0 [6])))
  (sSeq (sSet 5 (cLst true cNil))
  (sSeq (sFor (.tp [(.nm 6), (.nm 7)]) (iVal (cV 4)) m_formed_b1)
  (sRet (cF dTuple (cCons (cV 5) cNil))))))))
def F_formed : GF := bodyF 11 m_formed
def m_law_b0 : SM := (sSeq (sSet 5 (cF (pureC F__law_straight) (cCons (cV 2) (cCons (cF (pureC F__law_draw) (cCons (cV 4) (cCons (cK (.int 1)) cNil))) (cCons (cV 1) (cCons (cB (dAdd false) (cK (.int 1)) (cB dMod (cV 4) (cK (.int 7)))) cNil))))))
  (sSeq (sSet 6 (cF (pureC F__law_words) (cCons (cV 2) (cCons (cV 5) cNil))))
  (sSeq (sIf (tNotD (tVal (cF (pureC F__law_alike) (cCons (cF (pureC F_formed) (cCons (cV 3) (cCons (cV 5) cNil))) (cCons (cV 6) cNil))))) (sRet (cK (.bl false))) sNext)
  (sIf (tOrD (tNotD (tVal (cF (pureC F__law_alike) (cCons (cF (pureC F_formed) (cCons (cV 3) (cCons (cV 5) cNil))) (cCons (cV 6) cNil))))) (tVal (cB dNe (cU (dFld 0 0) (cV 3)) (cV 2)))) (sRet (cK (.bl false))) sNext))))
def m_law : SM := (sSeq (sSet 1 (cF (pureC F__law_letters) (cCons (cF (pureC F__law_cell_at) (cCons (cV 0) (cCons (cK (.int 0)) cNil))) cNil)))
  (sSeq (sSet 2 (cF (pureC F__law_rows) (cCons (cV 0) (cCons (cV 1) cNil))))
  (sSeq (sSet 3 (cF (makeF 0 F_Board___init__) (cCons (cV 2) (cCons (cF (pureC F__law_marks) (cCons (cV 2) (cCons (cF (pureC F__law_cell_at) (cCons (cV 0) (cCons (cK (.int 2)) cNil))) cNil))) (cCons (cTup (cCons (cK (.int 0)) (cCons (cK (.int 0)) cNil))) cNil)))))
  (sSeq (sFor (.nm 4) (iVal (cSl false (cV 0) (oSome (cK (.int 3))) (oSome (cK (.int 63))))) m_law_b0)
  (sRet (cK (.bl true)))))))
def F_law : GF := bodyF 7 m_law
end
end T20

namespace T20
open PySem L2 Lr
def top (i : Nat) : Stmt := PySem.Challenge.pw_letterrack_k20_words_that_are_formed.main.body.getD i (.Pass ⟨0, 0, 0, 0⟩)
def nm : Nm := ⟨fun c => [("Board" : Str)].getD c "", fun c => [(["rows", "marks", "begin"] : List Str)].getD c []⟩
structure Txt (T_FREE T_GREAT T_LETTERS T_MARKS T_MOST_CELLS : Tok) (K : PySem.W.Frag) (mg : Str → Option Value) (C_Board : Addr) : Prop where
  b_all : mg "all" = none
  b_bool : mg "bool" = none
  b_int : mg "int" = none
  b_isinstance : mg "isinstance" = none
  b_len : mg "len" = none
  b_list : mg "list" = none
  b_range : mg "range" = none
  b_str : mg "str" = none
  b_tuple : mg "tuple" = none
  b_zip : mg "zip" = none
  c_FREE : mg "FREE" = some (.str "." T_FREE)
  c_GREAT : mg "GREAT" = some (.str "ABCDEFGHIJKLMNOPQRSTUVWXYZ" T_GREAT)
  c_LETTERS : mg "LETTERS" = some (.str "abcdefghijklmnopqrstuvwxyz" T_LETTERS)
  c_MARKS : mg "MARKS" = some (.str ".234bcd" T_MARKS)
  c_MOST_CELLS : mg "MOST_CELLS" = some (.int 9 T_MOST_CELLS)
  k_Board : ClsT nm K mg 0 C_Board
section
variable {P : Program} {w : World} {K : PySem.W.Frag} {mg : Str → Option Value} {base : Heap} {C_Board : Addr} {T_FREE T_GREAT T_LETTERS T_MARKS T_MOST_CELLS : Tok}
abbrev s_are_rows : Stmt := top 16
theorem sc_are_rows : FnScope ["thing", "row"] ["thing"] (defScope s_are_rows) := ⟨rfl, rfl, rfl, by decide +kernel, rfl, by decide +kernel, by decide +kernel⟩
theorem bd_are_rows (T : Txt T_FREE T_GREAT T_LETTERS T_MARKS T_MOST_CELLS K mg C_Board)  : Bd P w K mg base nm ["thing", "row"] "are_rows" s_are_rows 0 m_are_rows := fun f cdv A outer s H E hr => by
  have hu := room_u hr
  have hu4 := room_u4 hr
  have sc := sc_are_rows
  unfold m_are_rows m_are_rows_b0
  exact (bv_cons (sv_if (tv_w (wv_or (tv_not (tv_val (ev_isi T.b_isinstance T.b_tuple (ev_var 0)))) (wv_or1 (tv_not (tv_chain (opr_le hu4) (opr_le hu4) op2_le op2_le ev_int (ev_cb callr_len opn_len T.b_len (av_cons (ev_var 0) av_nil)) (ev_globI T.c_MOST_CELLS)))))) (bv_one (sv_ret ev_bl)) bv_nil)
  (bv_cons (sv_for PassesOwn.never rfl (iv_val (ev_var 0)) (gv_name 1 sc.nd) (bv_one (sv_if (tv_w (wv_or (tv_not (tv_val (ev_isi T.b_isinstance T.b_str (ev_var 1)))) (wv_or (tv_not (tv_chain (opr_le hu4) (opr_le hu4) op2_le op2_le ev_int (ev_cb callr_len opn_len T.b_len (av_cons (ev_var 1) av_nil)) (ev_globI T.c_MOST_CELLS))) (wv_or1 (tv_cmp (op_neD hu4) op2_ne (ev_cb callr_len opn_len T.b_len (av_cons (ev_var 1) av_nil)) (ev_cb callr_len opn_len T.b_len (av_cons (ev_ix hu (ev_var 0) ev_int) av_nil))))))) (bv_one (sv_ret ev_bl)) bv_nil)))
  (bv_one (sv_ret ev_bl))))
theorem ok_are_rows (S : DefSrc K mg "are_rows" s_are_rows) (T : Txt T_FREE T_GREAT T_LETTERS T_MARKS T_MOST_CELLS K mg C_Board)  : DefOk P w K mg base nm "are_rows" 1 1 F_are_rows := def_ok S sc_are_rows (by decide) (fun _ _ _ _ _ _ us hl => match us, hl with | [_], _ => rfl) (bd_are_rows T )
abbrev s_is_whole : Stmt := top 15
theorem sc_is_whole : FnScope ["thing"] ["thing"] (defScope s_is_whole) := ⟨rfl, rfl, rfl, by decide +kernel, rfl, by decide +kernel, by decide +kernel⟩
theorem bd_is_whole (T : Txt T_FREE T_GREAT T_LETTERS T_MARKS T_MOST_CELLS K mg C_Board)  : Bd P w K mg base nm ["thing"] "is_whole" s_is_whole 0 m_is_whole := fun f cdv A outer s H E hr => by
  have hu := room_u hr
  have hu4 := room_u4 hr
  have sc := sc_is_whole
  unfold m_is_whole
  exact (bv_one (sv_ret (ev_and (ev_isi T.b_isinstance T.b_int (ev_var 0)) (ev_one (ev_not (ev_isi T.b_isinstance T.b_bool (ev_var 0)))))))
theorem ok_is_whole (S : DefSrc K mg "is_whole" s_is_whole) (T : Txt T_FREE T_GREAT T_LETTERS T_MARKS T_MOST_CELLS K mg C_Board)  : DefOk P w K mg base nm "is_whole" 1 1 F_is_whole := def_ok S sc_is_whole (by decide) (fun _ _ _ _ _ _ us hl => match us, hl with | [_], _ => rfl) (bd_is_whole T )
abbrev s_is_cell : Stmt := top 17
theorem sc_is_cell : FnScope ["rows", "thing"] ["rows", "thing"] (defScope s_is_cell) := ⟨rfl, rfl, rfl, by decide +kernel, rfl, by decide +kernel, by decide +kernel⟩
theorem bd_is_cell (T : Txt T_FREE T_GREAT T_LETTERS T_MARKS T_MOST_CELLS K mg C_Board) (h_is_whole : DefOk P w K mg base nm "is_whole" 1 1 F_is_whole) : Bd P w K mg base nm ["rows", "thing"] "is_cell" s_is_cell 1 m_is_cell := fun f cdv A outer s H E hr => by
  have hu := room_u hr
  have hu4 := room_u4 hr
  have sc := sc_is_cell
  unfold m_is_cell
  exact (bv_cons (sv_if (tv_w (wv_or (tv_not (tv_val (ev_isi T.b_isinstance T.b_tuple (ev_var 1)))) (wv_or (tv_cmp (op_neD hu4) op2_ne (ev_cb callr_len opn_len T.b_len (av_cons (ev_var 1) av_nil)) ev_int) (wv_or (tv_not (tv_val (ev_callF h_is_whole hr (av_cons (ev_ix hu (ev_var 1) ev_int) av_nil)))) (wv_or1 (tv_not (tv_val (ev_callF h_is_whole hr (av_cons (ev_ix hu (ev_var 1) ev_int) av_nil))))))))) (bv_one (sv_ret ev_bl)) bv_nil)
  (bv_one (sv_ret (ev_and (ev_chain (opr_le hu4) (opr_lt hu4) op2_le op2_lt ev_int (ev_ix hu (ev_var 1) ev_int) (ev_cb callr_len opn_len T.b_len (av_cons (ev_var 0) av_nil))) (ev_one (ev_chain (opr_le hu4) (opr_lt hu4) op2_le op2_lt ev_int (ev_ix hu (ev_var 1) ev_int) (ev_cb callr_len opn_len T.b_len (av_cons (ev_ix hu (ev_var 0) ev_int) av_nil))))))))
theorem ok_is_cell (S : DefSrc K mg "is_cell" s_is_cell) (T : Txt T_FREE T_GREAT T_LETTERS T_MARKS T_MOST_CELLS K mg C_Board) (h_is_whole : DefOk P w K mg base nm "is_whole" 1 1 F_is_whole) : DefOk P w K mg base nm "is_cell" 2 2 F_is_cell := def_ok S sc_is_cell (by decide) (fun _ _ _ _ _ _ us hl => match us, hl with | [_, _], _ => rfl) (bd_is_cell T h_is_whole)
abbrev s_is_sign : Stmt := top 7
theorem sc_is_sign : FnScope ["thing"] ["thing"] (defScope s_is_sign) := ⟨rfl, rfl, rfl, by decide +kernel, rfl, by decide +kernel, by decide +kernel⟩
theorem bd_is_sign (T : Txt T_FREE T_GREAT T_LETTERS T_MARKS T_MOST_CELLS K mg C_Board)  : Bd P w K mg base nm ["thing"] "is_sign" s_is_sign 0 m_is_sign := fun f cdv A outer s H E hr => by
  have hu := room_u hr
  have hu4 := room_u4 hr
  have sc := sc_is_sign
  unfold m_is_sign
  exact (bv_one (sv_ret (ev_and (ev_isi T.b_isinstance T.b_str (ev_var 0)) (ev_and (ev_cmp (op_eqD hu4) op2_eq (ev_cb callr_len opn_len T.b_len (av_cons (ev_var 0) av_nil)) ev_int) (ev_one (ev_cmp (opr_in hu) op2_in (ev_var 0) (ev_bin opr_add (op2_add (fl := false)) (ev_globS lowL T.c_LETTERS) (ev_globS upL T.c_GREAT))))))))
theorem ok_is_sign (S : DefSrc K mg "is_sign" s_is_sign) (T : Txt T_FREE T_GREAT T_LETTERS T_MARKS T_MOST_CELLS K mg C_Board)  : DefOk P w K mg base nm "is_sign" 1 1 F_is_sign := def_ok S sc_is_sign (by decide) (fun _ _ _ _ _ _ us hl => match us, hl with | [_], _ => rfl) (bd_is_sign T )
abbrev s_Board___init__ : Stmt := inClass (top 18) 0
theorem sc_Board___init__ : FnScope ["self", "rows", "marks", "begin", "sign", "mark"] ["self", "rows", "marks", "begin"] (defScope s_Board___init__) := ⟨rfl, rfl, rfl, by decide +kernel, rfl, by decide +kernel, by decide +kernel⟩
theorem bd_Board___init__ (T : Txt T_FREE T_GREAT T_LETTERS T_MARKS T_MOST_CELLS K mg C_Board) (h_are_rows : DefOk P w K mg base nm "are_rows" 1 1 F_are_rows) (h_is_cell : DefOk P w K mg base nm "is_cell" 2 2 F_is_cell) (h_is_sign : DefOk P w K mg base nm "is_sign" 1 1 F_is_sign) : Bd P w K mg base nm ["self", "rows", "marks", "begin", "sign", "mark"] "Board.__init__" s_Board___init__ 2 m_Board___init__ := fun f cdv A outer s H E hr => by
  have hu := room_u hr
  have hu4 := room_u4 hr
  have sc := sc_Board___init__
  unfold m_Board___init__ m_Board___init___e1 m_Board___init___e0
  exact (bv_cons (sv_if (tv_w (wv_or (tv_not (tv_val (ev_callF h_are_rows hr (av_cons (ev_var 1) av_nil)))) (wv_or1 (tv_not (tv_val (ev_callF h_are_rows hr (av_cons (ev_var 2) av_nil))))))) (bv_one sv_no) bv_nil)
  (bv_cons (sv_if (tv_w (wv_or (tv_cmp (op_neD hu4) op2_ne (ev_cb callr_len opn_len T.b_len (av_cons (ev_var 1) av_nil)) (ev_cb callr_len opn_len T.b_len (av_cons (ev_var 2) av_nil))) (wv_or (tv_cmp (op_neD hu4) op2_ne (ev_cb callr_len opn_len T.b_len (av_cons (ev_ix hu (ev_var 1) ev_int) av_nil)) (ev_cb callr_len opn_len T.b_len (av_cons (ev_ix hu (ev_var 2) ev_int) av_nil))) (wv_or1 (tv_not (tv_val (ev_callF h_is_cell hr (av_cons (ev_var 1) (av_cons (ev_var 3) av_nil))))))))) (bv_one sv_no) bv_nil)
  (bv_cons (sv_if (tv_not (tv_val (ev_cb (cr_all rfl) opn_all T.b_all (av_cons (ev_lc false rfl sc.nd (iv_val (ev_bm PySem.F.plainAttrs_str PySem.F.slot_str_join PySem.F.type_str_join mt_join opm_join (ev_str []) (av_cons (ev_var 1) av_nil))) [("sign", 4)] (by first | (change blkC ["self", "rows", "marks", "begin", "sign", "mark"] (defScope s_Board___init__) _ _ = true; decide +kernel) | kernel_rfl) (by decide) (fun _ _ _ _ _ => (gv_name 4 sc.nd)) (fun _ _ _ _ _ => (ev_or (ev_cmp (op_eqD hu4) op2_eq (ev_var 4) (ev_globS [46] T.c_FREE)) (ev_one (ev_callF h_is_sign hr (av_cons (ev_var 4) av_nil)))))) av_nil)))) (bv_one sv_no) bv_nil)
  (bv_cons (sv_if (tv_not (tv_val (ev_cb (cr_all rfl) opn_all T.b_all (av_cons (ev_lc false rfl sc.nd (iv_val (ev_bm PySem.F.plainAttrs_str PySem.F.slot_str_join PySem.F.type_str_join mt_join opm_join (ev_str []) (av_cons (ev_var 2) av_nil))) [("mark", 5)] (by first | (change blkC ["self", "rows", "marks", "begin", "sign", "mark"] (defScope s_Board___init__) _ _ = true; decide +kernel) | kernel_rfl) (by decide) (fun _ _ _ _ _ => (gv_name 5 sc.nd)) (fun _ _ _ _ _ => (ev_cmp (opr_in hu) op2_in (ev_var 5) (ev_globS [46, 50, 51, 52, 98, 99, 100] T.c_MARKS)))) av_nil)))) (bv_one sv_no) bv_nil)
  (bv_cons (sv_fld T.k_Board (ev_var 0) (ev_var 1))
  (bv_cons (sv_fld T.k_Board (ev_var 0) (ev_var 2))
  (bv_one (sv_fld T.k_Board (ev_var 0) (ev_var 3)))))))))
theorem ok_Board___init__ (S : InitSrc K C_Board "Board.__init__" s_Board___init__) (T : Txt T_FREE T_GREAT T_LETTERS T_MARKS T_MOST_CELLS K mg C_Board) (h_are_rows : DefOk P w K mg base nm "are_rows" 1 1 F_are_rows) (h_is_cell : DefOk P w K mg base nm "is_cell" 2 2 F_is_cell) (h_is_sign : DefOk P w K mg base nm "is_sign" 1 1 F_is_sign) : InitOk P w K mg base nm C_Board 3 4 F_Board___init__ := init_ok S sc_Board___init__ (by decide) (fun _ _ _ _ _ _ us hl => match us, hl with | [_, _, _, _], _ => rfl) (bd_Board___init__ T h_are_rows h_is_cell h_is_sign)
abbrev s__law_alike : Stmt := top 32
theorem sc__law_alike : FnScope ["_law_found", "_law_due", "_law_one", "_law_other"] ["_law_found", "_law_due"] (defScope s__law_alike) := ⟨rfl, rfl, rfl, by decide +kernel, rfl, by decide +kernel, by decide +kernel⟩
theorem bd__law_alike (kk : Nat) (rec : GF) (T : Txt T_FREE T_GREAT T_LETTERS T_MARKS T_MOST_CELLS K mg C_Board)  (h__law_alike : DefOk P w K mg base nm "_law_alike" (kk + 0) 2 rec) : Bd P w K mg base nm ["_law_found", "_law_due", "_law_one", "_law_other"] "_law_alike" s__law_alike (kk + 0) (m__law_alike rec) := fun f cdv A outer s H E hr => by
  have hu := room_u hr
  have hu4 := room_u4 hr
  have sc := sc__law_alike
  unfold m__law_alike m__law_alike_e0
  exact (bv_cons (sv_if (tv_val (ev_isi T.b_isinstance T.b_tuple (ev_var 1))) (bv_cons (sv_if (tv_w (wv_or (tv_not (tv_val (ev_isi T.b_isinstance T.b_tuple (ev_var 0)))) (wv_or1 (tv_cmp (op_neD hu4) op2_ne (ev_cb callr_len opn_len T.b_len (av_cons (ev_var 0) av_nil)) (ev_cb callr_len opn_len T.b_len (av_cons (ev_var 1) av_nil)))))) (bv_one (sv_ret ev_bl)) bv_nil)
  (bv_one (sv_ret (ev_cb (cr_all rfl) opn_all T.b_all (av_cons (ev_lc false rfl sc.nd (iv_zip (av_cons (ev_var 0) (av_cons (ev_var 1) av_nil)) (by rfl) T.b_zip) [("_law_one", 2), ("_law_other", 3)] (by first | (change blkC ["_law_found", "_law_due", "_law_one", "_law_other"] (defScope s__law_alike) _ _ = true; decide +kernel) | kernel_rfl) (by decide) (fun _ _ _ _ _ => (gv_tup rfl (gvs_cons (gv_name 2 sc.nd) (gvs_cons (gv_name 3 sc.nd) gvs_nil)))) (fun _ _ _ _ _ => (ev_callF h__law_alike hr (av_cons (ev_var 2) (av_cons (ev_var 3) av_nil)) (hj := by omega)))) av_nil))))) bv_nil)
  (bv_cons (sv_if (tv_val (ev_isi T.b_isinstance T.b_str (ev_var 1))) (bv_one (sv_ret (ev_and (ev_isi T.b_isinstance T.b_str (ev_var 0)) (ev_one (ev_cmp (op_eqD hu4) op2_eq (ev_var 0) (ev_var 1)))))) bv_nil)
  (bv_cons (sv_if (tv_val (ev_isi T.b_isinstance T.b_bool (ev_var 1))) (bv_one (sv_ret (ev_and (ev_isi T.b_isinstance T.b_bool (ev_var 0)) (ev_one (ev_cmp (op_eqD hu4) op2_eq (ev_var 0) (ev_var 1)))))) bv_nil)
  (bv_one (sv_ret (ev_and (ev_isi T.b_isinstance T.b_int (ev_var 0)) (ev_and (ev_not (ev_isi T.b_isinstance T.b_bool (ev_var 0))) (ev_one (ev_cmp (op_eqD hu4) op2_eq (ev_var 0) (ev_var 1))))))))))
theorem okr__law_alike (S : DefSrc K mg "_law_alike" s__law_alike) (T : Txt T_FREE T_GREAT T_LETTERS T_MARKS T_MOST_CELLS K mg C_Board)  : ∀ kk, DefOk P w K mg base nm "_law_alike" (kk + 0) 2 (R__law_alike kk)
  | 0 => def_no S sc__law_alike (by decide) (fun _ _ _ _ _ _ us hl => match us, hl with | [_, _], _ => rfl)
  | kk + 1 => def_ok S sc__law_alike (by decide) (fun _ _ _ _ _ _ us hl => match us, hl with | [_, _], _ => rfl) (bd__law_alike kk (R__law_alike kk) T  (okr__law_alike S T  kk))
theorem ok__law_alike (S : DefSrc K mg "_law_alike" s__law_alike) (T : Txt T_FREE T_GREAT T_LETTERS T_MARKS T_MOST_CELLS K mg C_Board)  : DefOk P w K mg base nm "_law_alike" 12 2 F__law_alike := okr__law_alike S T  12
abbrev s__law_cell_at : Stmt := top 20
theorem sc__law_cell_at : FnScope ["_law_script", "_law_k"] ["_law_script", "_law_k"] (defScope s__law_cell_at) := ⟨rfl, rfl, rfl, by decide +kernel, rfl, by decide +kernel, by decide +kernel⟩
theorem bd__law_cell_at (T : Txt T_FREE T_GREAT T_LETTERS T_MARKS T_MOST_CELLS K mg C_Board)  : Bd P w K mg base nm ["_law_script", "_law_k"] "_law_cell_at" s__law_cell_at 0 m__law_cell_at := fun f cdv A outer s H E hr => by
  have hu := room_u hr
  have hu4 := room_u4 hr
  have sc := sc__law_cell_at
  unfold m__law_cell_at
  exact (bv_cons (sv_if (tv_cmp (opr_lt hu4) op2_lt (ev_var 1) (ev_cb callr_len opn_len T.b_len (av_cons (ev_var 0) av_nil))) (bv_one (sv_ret (ev_ix hu (ev_var 0) (ev_var 1)))) bv_nil)
  (bv_one (sv_ret ev_int)))
theorem ok__law_cell_at (S : DefSrc K mg "_law_cell_at" s__law_cell_at) (T : Txt T_FREE T_GREAT T_LETTERS T_MARKS T_MOST_CELLS K mg C_Board)  : DefOk P w K mg base nm "_law_cell_at" 1 2 F__law_cell_at := def_ok S sc__law_cell_at (by decide) (fun _ _ _ _ _ _ us hl => match us, hl with | [_, _], _ => rfl) (bd__law_cell_at T )
abbrev s__law_draw : Stmt := top 21
theorem sc__law_draw : FnScope ["_law_cell", "_law_j", "_law_number"] ["_law_cell", "_law_j"] (defScope s__law_draw) := ⟨rfl, rfl, rfl, by decide +kernel, rfl, by decide +kernel, by decide +kernel⟩
theorem bd__law_draw (T : Txt T_FREE T_GREAT T_LETTERS T_MARKS T_MOST_CELLS K mg C_Board)  : Bd P w K mg base nm ["_law_cell", "_law_j", "_law_number"] "_law_draw" s__law_draw 0 m__law_draw := fun f cdv A outer s H E hr => by
  have hu := room_u hr
  have hu4 := room_u4 hr
  have sc := sc__law_draw
  unfold m__law_draw
  exact (bv_cons (sv_set (i := 2) sc.nd (ev_bin op_mod op2_mod (ev_bin opr_add (op2_add (fl := false)) (ev_bin opr_add (op2_add (fl := false)) (ev_bin opr_add (op2_add (fl := false)) (ev_bin opr_mul (op2_mul (fl := false)) (ev_bin op_mod op2_mod (ev_var 0) ev_int) ev_int) (ev_bin opr_mul (op2_mul (fl := false)) (ev_bin opr_mul (op2_mul (fl := false)) ev_int (ev_var 1)) (ev_var 1))) (ev_bin opr_mul (op2_mul (fl := false)) ev_int (ev_var 1))) ev_int) ev_int))
  (bv_cons (sv_set (i := 2) sc.nd (ev_bin op_mod op2_mod (ev_bin opr_add (op2_add (fl := false)) (ev_bin opr_mul (op2_mul (fl := false)) (ev_var 2) ev_int) (ev_bin opr_mul (op2_mul (fl := false)) ev_int (ev_var 1))) ev_int))
  (bv_one (sv_ret (ev_bin opr_add (op2_add (fl := false)) (ev_var 2) (ev_bin opr_mul (op2_mul (fl := false)) ev_int (ev_bin op_mod op2_mod (ev_bin op_fdivW op2_div (ev_var 0) (ev_bin opr_add (op2_add (fl := false)) (ev_var 1) ev_int)) (ev_bin op_pow op2_pow ev_int ev_int))))))))
theorem ok__law_draw (S : DefSrc K mg "_law_draw" s__law_draw) (T : Txt T_FREE T_GREAT T_LETTERS T_MARKS T_MOST_CELLS K mg C_Board)  : DefOk P w K mg base nm "_law_draw" 1 2 F__law_draw := def_ok S sc__law_draw (by decide) (fun _ _ _ _ _ _ us hl => match us, hl with | [_, _], _ => rfl) (bd__law_draw T )
abbrev s__law_letters : Stmt := top 22
theorem sc__law_letters : FnScope ["_law_cell", "_law_every", "_law_step", "_law_k"] ["_law_cell"] (defScope s__law_letters) := ⟨rfl, rfl, rfl, by decide +kernel, rfl, by decide +kernel, by decide +kernel⟩
theorem bd__law_letters (T : Txt T_FREE T_GREAT T_LETTERS T_MARKS T_MOST_CELLS K mg C_Board)  : Bd P w K mg base nm ["_law_cell", "_law_every", "_law_step", "_law_k"] "_law_letters" s__law_letters 0 m__law_letters := fun f cdv A outer s H E hr => by
  have hu := room_u hr
  have hu4 := room_u4 hr
  have sc := sc__law_letters
  unfold m__law_letters m__law_letters_e0
  exact (bv_cons (sv_set (i := 1) sc.nd (ev_str lowL))
  (bv_cons (sv_if (tv_cmp (op_eqD hu4) op2_eq (ev_bin op_mod op2_mod (ev_var 0) ev_int) ev_int) (bv_one (sv_ret (ev_var 1))) bv_nil)
  (bv_cons (sv_set (i := 2) sc.nd (ev_ix hu (ev_lst false (av_cons ev_int (av_cons ev_int (av_cons ev_int (av_cons ev_int (av_cons ev_int (av_cons ev_int av_nil))))))) (ev_bin op_mod op2_mod (ev_bin op_fdivW op2_div (ev_var 0) ev_int) ev_int)))
  (bv_one (sv_ret (ev_bm PySem.F.plainAttrs_str PySem.F.slot_str_join PySem.F.type_str_join mt_join opm_join (ev_str []) (av_cons (ev_lc false rfl sc.nd (iv_range1 (av_cons (ev_bin opr_add (op2_add (fl := false)) ev_int (ev_bin op_mod op2_mod (ev_bin op_fdivW op2_div (ev_var 0) ev_int) ev_int)) av_nil) (by rfl) T.b_range) [("_law_k", 3)] (by first | (change blkC ["_law_cell", "_law_every", "_law_step", "_law_k"] (defScope s__law_letters) _ _ = true; decide +kernel) | kernel_rfl) (by decide) (fun _ _ _ _ _ => (gv_name 3 sc.nd)) (fun _ _ _ _ _ => (ev_ix hu (ev_var 1) (ev_bin op_mod op2_mod (ev_bin opr_add (op2_add (fl := false)) (ev_bin op_fdivW op2_div (ev_var 0) ev_int) (ev_bin opr_mul (op2_mul (fl := false)) (ev_var 3) (ev_var 2))) ev_int)))) av_nil)))))))
theorem ok__law_letters (S : DefSrc K mg "_law_letters" s__law_letters) (T : Txt T_FREE T_GREAT T_LETTERS T_MARKS T_MOST_CELLS K mg C_Board)  : DefOk P w K mg base nm "_law_letters" 1 1 F__law_letters := def_ok S sc__law_letters (by decide) (fun _ _ _ _ _ _ us hl => match us, hl with | [_], _ => rfl) (bd__law_letters T )
abbrev s__law_marks : Stmt := top 25
theorem sc__law_marks : FnScope ["_law_rows_here", "_law_cell", "_law_found", "_law_row", "_law_text", "_law_column", "_law_number"] ["_law_rows_here", "_law_cell"] (defScope s__law_marks) := ⟨rfl, rfl, rfl, by decide +kernel, rfl, by decide +kernel, by decide +kernel⟩
theorem bd__law_marks (T : Txt T_FREE T_GREAT T_LETTERS T_MARKS T_MOST_CELLS K mg C_Board) (h__law_draw : DefOk P w K mg base nm "_law_draw" 1 2 F__law_draw) : Bd P w K mg base nm ["_law_rows_here", "_law_cell", "_law_found", "_law_row", "_law_text", "_law_column", "_law_number"] "_law_marks" s__law_marks 1 m__law_marks := fun f cdv A outer s H E hr => by
  have hu := room_u hr
  have hu4 := room_u4 hr
  have sc := sc__law_marks
  unfold m__law_marks m__law_marks_b1 m__law_marks_b0
  exact (bv_cons (sv_set (i := 2) sc.nd (ev_lst true av_nil))
  (bv_cons (sv_for PassesOwn.never rfl (iv_range1 (av_cons (ev_cb callr_len opn_len T.b_len (av_cons (ev_var 0) av_nil)) av_nil) (by rfl) T.b_range) (gv_name 3 sc.nd) (bv_cons (sv_set (i := 4) sc.nd (ev_str []))
  (bv_cons (sv_for PassesOwn.never rfl (iv_range1 (av_cons (ev_cb callr_len opn_len T.b_len (av_cons (ev_ix hu (ev_var 0) ev_int) av_nil)) av_nil) (by rfl) T.b_range) (gv_name 5 sc.nd) (bv_cons (sv_set (i := 6) sc.nd (ev_callF h__law_draw hr (av_cons (ev_var 1) (av_cons (ev_bin opr_add (op2_add (fl := false)) (ev_bin opr_add (op2_add (fl := false)) ev_int (ev_bin opr_mul (op2_mul (fl := false)) ev_int (ev_var 3))) (ev_var 5)) av_nil))))
  (bv_one (sv_set (i := 4) sc.nd (ev_bin opr_add (op2_add (fl := false)) (ev_var 4) (ev_ix hu (ev_bin opr_add (op2_add (fl := false)) (ev_str [50, 51, 52, 98, 99, 100]) (ev_bin opr_mul (op2_mul (fl := false)) (ev_str [46]) ev_int)) (ev_bin op_mod op2_mod (ev_var 6) ev_int)))))))
  (bv_one (sv_expr (ev_bm PySem.F.plainAttrs_list PySem.F.slot_list_append PySem.F.type_list_append mt_append opm_append (ev_var 2) (av_cons (ev_var 4) av_nil)))))))
  (bv_one (sv_ret (ev_ct call_tuple_of opn_tuple T.b_tuple (av_cons (ev_var 2) av_nil))))))
theorem ok__law_marks (S : DefSrc K mg "_law_marks" s__law_marks) (T : Txt T_FREE T_GREAT T_LETTERS T_MARKS T_MOST_CELLS K mg C_Board) (h__law_draw : DefOk P w K mg base nm "_law_draw" 1 2 F__law_draw) : DefOk P w K mg base nm "_law_marks" 2 2 F__law_marks := def_ok S sc__law_marks (by decide) (fun _ _ _ _ _ _ us hl => match us, hl with | [_, _], _ => rfl) (bd__law_marks T h__law_draw)
abbrev s__law_sign : Stmt := top 23
theorem sc__law_sign : FnScope ["_law_cell", "_law_letters_here", "_law_letter"] ["_law_cell", "_law_letters_here"] (defScope s__law_sign) := ⟨rfl, rfl, rfl, by decide +kernel, rfl, by decide +kernel, by decide +kernel⟩
theorem bd__law_sign (T : Txt T_FREE T_GREAT T_LETTERS T_MARKS T_MOST_CELLS K mg C_Board)  : Bd P w K mg base nm ["_law_cell", "_law_letters_here", "_law_letter"] "_law_sign" s__law_sign 0 m__law_sign := fun f cdv A outer s H E hr => by
  have hu := room_u hr
  have hu4 := room_u4 hr
  have sc := sc__law_sign
  unfold m__law_sign
  exact (bv_cons (sv_set (i := 2) sc.nd (ev_ix hu (ev_var 1) (ev_bin op_mod op2_mod (ev_var 0) (ev_cb callr_len opn_len T.b_len (av_cons (ev_var 1) av_nil)))))
  (bv_cons (sv_if (tv_cmp (op_eqD hu4) op2_eq (ev_bin op_mod op2_mod (ev_bin op_fdivW op2_div (ev_var 0) ev_int) ev_int) ev_int) (bv_one (sv_ret (ev_bm0 PySem.F.plainAttrs_str PySem.F.slot_str_upper PySem.F.type_str_upper mt_upper opm_upper (ev_var 2)))) bv_nil)
  (bv_one (sv_ret (ev_var 2)))))
theorem ok__law_sign (S : DefSrc K mg "_law_sign" s__law_sign) (T : Txt T_FREE T_GREAT T_LETTERS T_MARKS T_MOST_CELLS K mg C_Board)  : DefOk P w K mg base nm "_law_sign" 1 2 F__law_sign := def_ok S sc__law_sign (by decide) (fun _ _ _ _ _ _ us hl => match us, hl with | [_, _], _ => rfl) (bd__law_sign T )
abbrev s__law_rows : Stmt := top 24
theorem sc__law_rows : FnScope ["_law_script", "_law_letters_here", "_law_cell", "_law_tall", "_law_wide", "_law_lies", "_law_full", "_law_rest", "_law_rows_here", "_law_row", "_law_free", "_law_line", "_law_spot", "_law_text", "_law_column", "_law_number"] ["_law_script", "_law_letters_here"] (defScope s__law_rows) := ⟨rfl, rfl, rfl, by decide +kernel, rfl, by decide +kernel, by decide +kernel⟩
theorem bd__law_rows (T : Txt T_FREE T_GREAT T_LETTERS T_MARKS T_MOST_CELLS K mg C_Board) (h__law_cell_at : DefOk P w K mg base nm "_law_cell_at" 1 2 F__law_cell_at) (h__law_draw : DefOk P w K mg base nm "_law_draw" 1 2 F__law_draw) (h__law_sign : DefOk P w K mg base nm "_law_sign" 1 2 F__law_sign) : Bd P w K mg base nm ["_law_script", "_law_letters_here", "_law_cell", "_law_tall", "_law_wide", "_law_lies", "_law_full", "_law_rest", "_law_rows_here", "_law_row", "_law_free", "_law_line", "_law_spot", "_law_text", "_law_column", "_law_number"] "_law_rows" s__law_rows 1 m__law_rows := fun f cdv A outer s H E hr => by
  have hu := room_u hr
  have hu4 := room_u4 hr
  have sc := sc__law_rows
  unfold m__law_rows m__law_rows_b1 m__law_rows_b0
  exact (bv_cons (sv_set (i := 2) sc.nd (ev_callF h__law_cell_at hr (av_cons (ev_var 0) (av_cons ev_int av_nil))))
  (bv_cons (sv_set (i := 3) sc.nd (ev_bin opr_add (op2_add (fl := false)) ev_int (ev_bin op_mod op2_mod (ev_var 2) ev_int)))
  (bv_cons (sv_set (i := 4) sc.nd (ev_bin opr_add (op2_add (fl := false)) ev_int (ev_bin op_mod op2_mod (ev_bin op_fdivW op2_div (ev_var 2) ev_int) ev_int)))
  (bv_cons (sv_if (tv_cmp (op_eqD hu4) op2_eq (ev_bin op_mod op2_mod (ev_bin op_fdivW op2_div (ev_var 2) ev_int) ev_int) ev_int) (bv_cons (sv_set (i := 3) sc.nd (ev_bin opr_add (op2_add (fl := false)) ev_int (ev_bin op_mod op2_mod (ev_bin op_fdivW op2_div (ev_var 2) ev_int) ev_int)))
  (bv_one (sv_set (i := 4) sc.nd (ev_bin opr_add (op2_add (fl := false)) ev_int (ev_bin op_mod op2_mod (ev_bin op_fdivW op2_div (ev_var 2) ev_int) ev_int))))) bv_nil)
  (bv_cons (sv_set (i := 5) sc.nd (ev_callF h__law_cell_at hr (av_cons (ev_var 0) (av_cons ev_int av_nil))))
  (bv_cons (sv_set (i := 6) sc.nd (ev_ix hu (ev_lst false (av_cons ev_int (av_cons ev_int (av_cons ev_int (av_cons ev_int (av_cons ev_int (av_cons ev_int (av_cons ev_int (av_cons ev_int av_nil))))))))) (ev_bin op_mod op2_mod (ev_var 5) ev_int)))
  (bv_cons (sv_set (i := 7) sc.nd (ev_bin op_fdivW op2_div (ev_var 5) ev_int))
  (bv_cons (sv_set (i := 8) sc.nd (ev_lst true av_nil))
  (bv_cons (sv_for PassesOwn.never rfl (iv_range1 (av_cons (ev_var 3) av_nil) (by rfl) T.b_range) (gv_name 9 sc.nd) (bv_cons (sv_set (i := 13) sc.nd (ev_str []))
  (bv_cons (sv_for PassesOwn.never rfl (iv_range1 (av_cons (ev_var 4) av_nil) (by rfl) T.b_range) (gv_name 14 sc.nd) (bv_cons (sv_set (i := 15) sc.nd (ev_callF h__law_draw hr (av_cons (ev_var 5) (av_cons (ev_bin opr_add (op2_add (fl := false)) (ev_bin opr_add (op2_add (fl := false)) ev_int (ev_bin opr_mul (op2_mul (fl := false)) ev_int (ev_var 9))) (ev_var 14)) av_nil))))
  (bv_cons (sv_if (tv_cmp (op_eqD hu4) op2_eq (ev_bin op_mod op2_mod (ev_bin op_fdivW op2_div (ev_var 5) ev_int) ev_int) ev_int) (bv_cons (sv_set (i := 15) sc.nd (ev_bin op_mod op2_mod (ev_var 7) ev_int))
  (bv_one (sv_set (i := 7) sc.nd (ev_bin op_fdivW op2_div (ev_var 7) ev_int)))) bv_nil)
  (bv_one (sv_if (tv_cmp (opr_lt hu4) op2_lt (ev_bin op_mod op2_mod (ev_var 15) ev_int) (ev_var 6)) (bv_one (sv_set (i := 13) sc.nd (ev_bin opr_add (op2_add (fl := false)) (ev_var 13) (ev_callF h__law_sign hr (av_cons (ev_bin op_fdivW op2_div (ev_var 15) ev_int) (av_cons (ev_var 1) av_nil)))))) (bv_one (sv_set (i := 13) sc.nd (ev_bin opr_add (op2_add (fl := false)) (ev_var 13) (ev_str [46])))))))))
  (bv_one (sv_expr (ev_bm PySem.F.plainAttrs_list PySem.F.slot_list_append PySem.F.type_list_append mt_append opm_append (ev_var 8) (av_cons (ev_var 13) av_nil)))))))
  (bv_cons (sv_set (i := 10) sc.nd (ev_bin op_mod op2_mod (ev_bin op_fdivW op2_div (ev_var 2) ev_int) (ev_bin opr_mul (op2_mul (fl := false)) (ev_var 3) (ev_var 4))))
  (bv_cons (sv_set (i := 9) sc.nd (ev_bin op_fdivW op2_div (ev_var 10) (ev_var 4)))
  (bv_cons (sv_set (i := 11) sc.nd (ev_ix hu (ev_var 8) (ev_var 9)))
  (bv_cons (sv_set (i := 12) sc.nd (ev_bin op_mod op2_mod (ev_var 10) (ev_var 4)))
  (bv_cons (sv_sub hu (ev_bin opr_add (op2_add (fl := false)) (ev_bin opr_add (op2_add (fl := false)) (ev_sl false (ev_var 11) ov_none (ov_some (ev_var 12))) (ev_str [46])) (ev_sl false (ev_var 11) (ov_some (ev_bin opr_add (op2_add (fl := false)) (ev_var 12) ev_int)) ov_none)) (ev_var 8) (ev_var 9))
  (bv_one (sv_ret (ev_ct call_tuple_of opn_tuple T.b_tuple (av_cons (ev_var 8) av_nil))))))))))))))))))
theorem ok__law_rows (S : DefSrc K mg "_law_rows" s__law_rows) (T : Txt T_FREE T_GREAT T_LETTERS T_MARKS T_MOST_CELLS K mg C_Board) (h__law_cell_at : DefOk P w K mg base nm "_law_cell_at" 1 2 F__law_cell_at) (h__law_draw : DefOk P w K mg base nm "_law_draw" 1 2 F__law_draw) (h__law_sign : DefOk P w K mg base nm "_law_sign" 1 2 F__law_sign) : DefOk P w K mg base nm "_law_rows" 2 2 F__law_rows := def_ok S sc__law_rows (by decide) (fun _ _ _ _ _ _ us hl => match us, hl with | [_, _], _ => rfl) (bd__law_rows T h__law_cell_at h__law_draw h__law_sign)
abbrev s__law_is_near : Stmt := top 29
theorem sc__law_is_near : FnScope ["_law_rows_here", "_law_row", "_law_column", "_law_there"] ["_law_rows_here", "_law_row", "_law_column"] (defScope s__law_is_near) := ⟨rfl, rfl, rfl, by decide +kernel, rfl, by decide +kernel, by decide +kernel⟩
theorem bd__law_is_near (T : Txt T_FREE T_GREAT T_LETTERS T_MARKS T_MOST_CELLS K mg C_Board)  : Bd P w K mg base nm ["_law_rows_here", "_law_row", "_law_column", "_law_there"] "_law_is_near" s__law_is_near 0 m__law_is_near := fun f cdv A outer s H E hr => by
  have hu := room_u hr
  have hu4 := room_u4 hr
  have sc := sc__law_is_near
  unfold m__law_is_near m__law_is_near_b0
  exact (bv_cons (sv_for PassesOwn.never rfl (iv_val (ev_lst false (av_cons (ev_tup (av_cons (ev_bin op_sub op2_sub (ev_var 1) ev_int) (av_cons (ev_var 2) av_nil))) (av_cons (ev_tup (av_cons (ev_var 1) (av_cons (ev_bin op_sub op2_sub (ev_var 2) ev_int) av_nil))) (av_cons (ev_tup (av_cons (ev_var 1) (av_cons (ev_bin opr_add (op2_add (fl := false)) (ev_var 2) ev_int) av_nil))) (av_cons (ev_tup (av_cons (ev_bin opr_add (op2_add (fl := false)) (ev_var 1) ev_int) (av_cons (ev_var 2) av_nil))) av_nil)))))) (gv_name 3 sc.nd) (bv_one (sv_if (tv_w (wv_and (tv_chain (opr_le hu4) (opr_lt hu4) op2_le op2_lt ev_int (ev_ix hu (ev_var 3) ev_int) (ev_cb callr_len opn_len T.b_len (av_cons (ev_var 0) av_nil))) (wv_and (tv_chain (opr_le hu4) (opr_lt hu4) op2_le op2_lt ev_int (ev_ix hu (ev_var 3) ev_int) (ev_cb callr_len opn_len T.b_len (av_cons (ev_ix hu (ev_var 0) ev_int) av_nil))) (wv_and1 (tv_cmp (op_neD hu4) op2_ne (ev_ix hu (ev_ix hu (ev_var 0) (ev_ix hu (ev_var 3) ev_int)) (ev_ix hu (ev_var 3) ev_int)) (ev_str [46])))))) (bv_one (sv_ret ev_bl)) bv_nil)))
  (bv_one (sv_ret ev_bl)))
theorem ok__law_is_near (S : DefSrc K mg "_law_is_near" s__law_is_near) (T : Txt T_FREE T_GREAT T_LETTERS T_MARKS T_MOST_CELLS K mg C_Board)  : DefOk P w K mg base nm "_law_is_near" 1 3 F__law_is_near := def_ok S sc__law_is_near (by decide) (fun _ _ _ _ _ _ us hl => match us, hl with | [_, _, _], _ => rfl) (bd__law_is_near T )
abbrev s__law_starts : Stmt := top 30
theorem sc__law_starts : FnScope ["_law_rows_here", "_law_cell", "_law_free", "_law_near", "_law_row", "_law_column"] ["_law_rows_here", "_law_cell"] (defScope s__law_starts) := ⟨rfl, rfl, rfl, by decide +kernel, rfl, by decide +kernel, by decide +kernel⟩
theorem bd__law_starts (T : Txt T_FREE T_GREAT T_LETTERS T_MARKS T_MOST_CELLS K mg C_Board) (h__law_is_near : DefOk P w K mg base nm "_law_is_near" 1 3 F__law_is_near) : Bd P w K mg base nm ["_law_rows_here", "_law_cell", "_law_free", "_law_near", "_law_row", "_law_column"] "_law_starts" s__law_starts 1 m__law_starts := fun f cdv A outer s H E hr => by
  have hu := room_u hr
  have hu4 := room_u4 hr
  have sc := sc__law_starts
  unfold m__law_starts m__law_starts_b1 m__law_starts_b0
  exact (bv_cons (sv_set (i := 2) sc.nd (ev_lst true av_nil))
  (bv_cons (sv_set (i := 3) sc.nd (ev_lst true av_nil))
  (bv_cons (sv_for PassesOwn.never rfl (iv_range1 (av_cons (ev_cb callr_len opn_len T.b_len (av_cons (ev_var 0) av_nil)) av_nil) (by rfl) T.b_range) (gv_name 4 sc.nd) (bv_one (sv_for PassesOwn.never rfl (iv_range1 (av_cons (ev_cb callr_len opn_len T.b_len (av_cons (ev_ix hu (ev_var 0) ev_int) av_nil)) av_nil) (by rfl) T.b_range) (gv_name 5 sc.nd) (bv_one (sv_if (tv_cmp (op_eqD hu4) op2_eq (ev_ix hu (ev_ix hu (ev_var 0) (ev_var 4)) (ev_var 5)) (ev_str [46])) (bv_cons (sv_expr (ev_bm PySem.F.plainAttrs_list PySem.F.slot_list_append PySem.F.type_list_append mt_append opm_append (ev_var 2) (av_cons (ev_tup (av_cons (ev_var 4) (av_cons (ev_var 5) av_nil))) av_nil)))
  (bv_one (sv_if (tv_val (ev_callF h__law_is_near hr (av_cons (ev_var 0) (av_cons (ev_var 4) (av_cons (ev_var 5) av_nil))))) (bv_one (sv_expr (ev_bm PySem.F.plainAttrs_list PySem.F.slot_list_append PySem.F.type_list_append mt_append opm_append (ev_var 3) (av_cons (ev_tup (av_cons (ev_var 4) (av_cons (ev_var 5) av_nil))) av_nil)))) bv_nil))) bv_nil)))))
  (bv_cons (sv_if (tv_w (wv_and (tv_cmp (op_neD hu4) op2_ne (ev_var 3) (ev_lst false av_nil)) (wv_and1 (tv_cmp (opr_gt hu4) op2_gt (ev_bin op_mod op2_mod (ev_var 1) ev_int) ev_int)))) (bv_one (sv_ret (ev_ix hu (ev_var 3) (ev_bin op_mod op2_mod (ev_bin op_fdivW op2_div (ev_var 1) ev_int) (ev_cb callr_len opn_len T.b_len (av_cons (ev_var 3) av_nil)))))) bv_nil)
  (bv_one (sv_ret (ev_ix hu (ev_var 2) (ev_bin op_mod op2_mod (ev_bin op_fdivW op2_div (ev_var 1) ev_int) (ev_cb callr_len opn_len T.b_len (av_cons (ev_var 2) av_nil))))))))))
theorem ok__law_starts (S : DefSrc K mg "_law_starts" s__law_starts) (T : Txt T_FREE T_GREAT T_LETTERS T_MARKS T_MOST_CELLS K mg C_Board) (h__law_is_near : DefOk P w K mg base nm "_law_is_near" 1 3 F__law_is_near) : DefOk P w K mg base nm "_law_starts" 2 2 F__law_starts := def_ok S sc__law_starts (by decide) (fun _ _ _ _ _ _ us hl => match us, hl with | [_, _], _ => rfl) (bd__law_starts T h__law_is_near)
abbrev s__law_straight : Stmt := top 31
theorem sc__law_straight : FnScope ["_law_rows_here", "_law_cell", "_law_letters_here", "_law_many", "_law_way", "_law_found", "_law_blanks", "_law_rest", "_law_row", "_law_column", "_law_number", "_law_sign_here"] ["_law_rows_here", "_law_cell", "_law_letters_here", "_law_many"] (defScope s__law_straight) := ⟨rfl, rfl, rfl, by decide +kernel, rfl, by decide +kernel, by decide +kernel⟩
theorem bd__law_straight (T : Txt T_FREE T_GREAT T_LETTERS T_MARKS T_MOST_CELLS K mg C_Board) (h__law_draw : DefOk P w K mg base nm "_law_draw" 1 2 F__law_draw) (h__law_sign : DefOk P w K mg base nm "_law_sign" 1 2 F__law_sign) (h__law_starts : DefOk P w K mg base nm "_law_starts" 2 2 F__law_starts) : Bd P w K mg base nm ["_law_rows_here", "_law_cell", "_law_letters_here", "_law_many", "_law_way", "_law_found", "_law_blanks", "_law_rest", "_law_row", "_law_column", "_law_number", "_law_sign_here"] "_law_straight" s__law_straight 2 m__law_straight := fun f cdv A outer s H E hr => by
  have hu := room_u hr
  have hu4 := room_u4 hr
  have sc := sc__law_straight
  unfold m__law_straight m__law_straight_w0
  exact (bv_cons (sv_set (i := 4) sc.nd (ev_bin op_mod op2_mod (ev_var 1) ev_int))
  (bv_cons (sv_asg (ev_callF h__law_starts hr (av_cons (ev_var 0) (av_cons (ev_bin op_fdivW op2_div (ev_var 1) ev_int) av_nil))) (gv_tup rfl (gvs_cons (gv_name 8 sc.nd) (gvs_cons (gv_name 9 sc.nd) gvs_nil))))
  (bv_cons (sv_set (i := 5) sc.nd (ev_lst true av_nil))
  (bv_cons (sv_set (i := 6) sc.nd ev_int)
  (bv_cons (sv_set (i := 7) sc.nd (ev_bin op_fdivW op2_div (ev_var 1) ev_int))
  (bv_cons (sv_while PassesOwn.never (tv_w (wv_and (tv_cmp (opr_lt hu4) op2_lt (ev_var 8) (ev_cb callr_len opn_len T.b_len (av_cons (ev_var 0) av_nil))) (wv_and (tv_cmp (opr_lt hu4) op2_lt (ev_var 9) (ev_cb callr_len opn_len T.b_len (av_cons (ev_ix hu (ev_var 0) ev_int) av_nil))) (wv_and1 (tv_cmp (opr_lt hu4) op2_lt (ev_cb callr_len opn_len T.b_len (av_cons (ev_var 5) av_nil)) (ev_var 3)))))) (bv_cons (sv_if (tv_cmp (op_eqD hu4) op2_eq (ev_ix hu (ev_ix hu (ev_var 0) (ev_var 8)) (ev_var 9)) (ev_str [46])) (bv_cons (sv_set (i := 10) sc.nd (ev_callF h__law_draw hr (av_cons (ev_var 1) (av_cons (ev_bin opr_add (op2_add (fl := false)) (ev_cb callr_len opn_len T.b_len (av_cons (ev_var 5) av_nil)) ev_int) av_nil))))
  (bv_cons (sv_if (tv_cmp (op_eqD hu4) op2_eq (ev_bin op_mod op2_mod (ev_bin op_fdivW op2_div (ev_var 1) ev_int) ev_int) ev_int) (bv_cons (sv_set (i := 10) sc.nd (ev_bin op_mod op2_mod (ev_var 7) ev_int))
  (bv_one (sv_set (i := 7) sc.nd (ev_bin op_fdivW op2_div (ev_var 7) ev_int)))) bv_nil)
  (bv_cons (sv_set (i := 11) sc.nd (ev_callF h__law_sign hr (av_cons (ev_var 10) (av_cons (ev_var 2) av_nil))))
  (bv_cons (sv_if (tv_cmp (op_eqD hu4) op2_eq (ev_var 6) ev_int) (bv_one (sv_set (i := 11) sc.nd (ev_bm0 PySem.F.plainAttrs_str PySem.F.slot_str_lower PySem.F.type_str_lower mt_lower opm_lower (ev_var 11)))) bv_nil)
  (bv_cons (sv_set (i := 6) sc.nd (ev_bin opr_add (op2_add (fl := false)) (ev_var 6) (ev_ct call_int1 opn_int T.b_int (av_cons (ev_cmp (op_neD hu4) op2_ne (ev_var 11) (ev_bm0 PySem.F.plainAttrs_str PySem.F.slot_str_lower PySem.F.type_str_lower mt_lower opm_lower (ev_var 11))) av_nil))))
  (bv_one (sv_expr (ev_bm PySem.F.plainAttrs_list PySem.F.slot_list_append PySem.F.type_list_append mt_append opm_append (ev_var 5) (av_cons (ev_tup (av_cons (ev_var 8) (av_cons (ev_var 9) (av_cons (ev_var 11) av_nil)))) av_nil))))))))) bv_nil)
  (bv_cons (sv_set (i := 8) sc.nd (ev_bin opr_add (op2_add (fl := false)) (ev_var 8) (ev_var 4)))
  (bv_one (sv_set (i := 9) sc.nd (ev_bin op_sub op2_sub (ev_bin opr_add (op2_add (fl := false)) (ev_var 9) ev_int) (ev_var 4)))))))
  (bv_one (sv_ret (ev_ct call_tuple_of opn_tuple T.b_tuple (av_cons (ev_var 5) av_nil))))))))))
theorem ok__law_straight (S : DefSrc K mg "_law_straight" s__law_straight) (T : Txt T_FREE T_GREAT T_LETTERS T_MARKS T_MOST_CELLS K mg C_Board) (h__law_draw : DefOk P w K mg base nm "_law_draw" 1 2 F__law_draw) (h__law_sign : DefOk P w K mg base nm "_law_sign" 1 2 F__law_sign) (h__law_starts : DefOk P w K mg base nm "_law_starts" 2 2 F__law_starts) : DefOk P w K mg base nm "_law_straight" 3 4 F__law_straight := def_ok S sc__law_straight (by decide) (fun _ _ _ _ _ _ us hl => match us, hl with | [_, _, _, _], _ => rfl) (bd__law_straight T h__law_draw h__law_sign h__law_starts)
abbrev s__law_grid : Stmt := top 26
theorem sc__law_grid : FnScope ["_law_rows_here", "_law_laying", "_law_grid_here", "_law_row", "_law_column", "_law_sign_here"] ["_law_rows_here", "_law_laying"] (defScope s__law_grid) := ⟨rfl, rfl, rfl, by decide +kernel, rfl, by decide +kernel, by decide +kernel⟩
theorem bd__law_grid (T : Txt T_FREE T_GREAT T_LETTERS T_MARKS T_MOST_CELLS K mg C_Board)  : Bd P w K mg base nm ["_law_rows_here", "_law_laying", "_law_grid_here", "_law_row", "_law_column", "_law_sign_here"] "_law_grid" s__law_grid 0 m__law_grid := fun f cdv A outer s H E hr => by
  have hu := room_u hr
  have hu4 := room_u4 hr
  have sc := sc__law_grid
  unfold m__law_grid m__law_grid_b1 m__law_grid_e0
  exact (bv_cons (sv_setLc false (i := 2) rfl sc.nd (iv_val (ev_var 0)) [("_law_row", 3)] (by first | (change blkC ["_law_rows_here", "_law_laying", "_law_grid_here", "_law_row", "_law_column", "_law_sign_here"] (defScope s__law_grid) _ _ = true; decide +kernel) | kernel_rfl) (by decide) (fun _ _ _ _ _ => (gv_name 3 sc.nd)) (fun _ _ _ _ _ => (ev_ct (call_listA rfl) (opn_listA (fl := true)) T.b_list (av_cons (ev_var 3) av_nil))) (sw_true rfl rfl rfl (by decide +kernel)))
  (bv_cons (sv_for PassesOwn.never rfl (iv_val (ev_var 1)) (gv_tup rfl (gvs_cons (gv_name 3 sc.nd) (gvs_cons (gv_name 4 sc.nd) (gvs_cons (gv_name 5 sc.nd) gvs_nil)))) (bv_one (sv_sub hu (ev_var 5) (ev_ix hu (ev_var 2) (ev_var 3)) (ev_var 4))))
  (bv_one (sv_ret (ev_var 2)))))
theorem ok__law_grid (S : DefSrc K mg "_law_grid" s__law_grid) (T : Txt T_FREE T_GREAT T_LETTERS T_MARKS T_MOST_CELLS K mg C_Board)  : DefOk P w K mg base nm "_law_grid" 1 2 F__law_grid := def_ok S sc__law_grid (by decide) (fun _ _ _ _ _ _ us hl => match us, hl with | [_, _], _ => rfl) (bd__law_grid T )
abbrev s__law_run : Stmt := top 27
theorem sc__law_run : FnScope ["_law_grid_here", "_law_row", "_law_column", "_law_way", "_law_signs", "_law_here"] ["_law_grid_here", "_law_row", "_law_column", "_law_way"] (defScope s__law_run) := ⟨rfl, rfl, rfl, by decide +kernel, rfl, by decide +kernel, by decide +kernel⟩
theorem bd__law_run (T : Txt T_FREE T_GREAT T_LETTERS T_MARKS T_MOST_CELLS K mg C_Board)  : Bd P w K mg base nm ["_law_grid_here", "_law_row", "_law_column", "_law_way", "_law_signs", "_law_here"] "_law_run" s__law_run 0 m__law_run := fun f cdv A outer s H E hr => by
  have hu := room_u hr
  have hu4 := room_u4 hr
  have sc := sc__law_run
  unfold m__law_run m__law_run_w1 m__law_run_w0
  exact (bv_cons (sv_while PassesOwn.never (tv_w (wv_and (tv_cmp (opr_ge hu4) op2_ge (ev_var 1) (ev_var 3)) (wv_and (tv_cmp (opr_ge hu4) op2_ge (ev_var 2) (ev_bin op_sub op2_sub ev_int (ev_var 3))) (wv_and1 (tv_cmp (op_neD hu4) op2_ne (ev_ix hu (ev_ix hu (ev_var 0) (ev_bin op_sub op2_sub (ev_var 1) (ev_var 3))) (ev_bin opr_add (op2_add (fl := false)) (ev_bin op_sub op2_sub (ev_var 2) ev_int) (ev_var 3))) (ev_str [46])))))) (bv_cons (sv_set (i := 1) sc.nd (ev_bin op_sub op2_sub (ev_var 1) (ev_var 3)))
  (bv_one (sv_set (i := 2) sc.nd (ev_bin opr_add (op2_add (fl := false)) (ev_bin op_sub op2_sub (ev_var 2) ev_int) (ev_var 3))))))
  (bv_cons (sv_set (i := 4) sc.nd (ev_str []))
  (bv_cons (sv_set (i := 5) sc.nd (ev_tup (av_cons (ev_var 1) (av_cons (ev_var 2) av_nil))))
  (bv_cons (sv_while PassesOwn.never (tv_w (wv_and (tv_cmp (opr_lt hu4) op2_lt (ev_ix hu (ev_var 5) ev_int) (ev_cb callr_len opn_len T.b_len (av_cons (ev_var 0) av_nil))) (wv_and (tv_cmp (opr_lt hu4) op2_lt (ev_ix hu (ev_var 5) ev_int) (ev_cb callr_len opn_len T.b_len (av_cons (ev_ix hu (ev_var 0) ev_int) av_nil))) (wv_and1 (tv_cmp (op_neD hu4) op2_ne (ev_ix hu (ev_ix hu (ev_var 0) (ev_ix hu (ev_var 5) ev_int)) (ev_ix hu (ev_var 5) ev_int)) (ev_str [46])))))) (bv_cons (sv_set (i := 4) sc.nd (ev_bin opr_add (op2_add (fl := false)) (ev_var 4) (ev_ix hu (ev_ix hu (ev_var 0) (ev_ix hu (ev_var 5) ev_int)) (ev_ix hu (ev_var 5) ev_int))))
  (bv_one (sv_set (i := 5) sc.nd (ev_tup (av_cons (ev_bin opr_add (op2_add (fl := false)) (ev_ix hu (ev_var 5) ev_int) (ev_var 3)) (av_cons (ev_bin op_sub op2_sub (ev_bin opr_add (op2_add (fl := false)) (ev_ix hu (ev_var 5) ev_int) ev_int) (ev_var 3)) av_nil)))))))
  (bv_one (sv_ret (ev_tup (av_cons (ev_var 1) (av_cons (ev_var 2) (av_cons (ev_var 3) (av_cons (ev_var 4) av_nil)))))))))))
theorem ok__law_run (S : DefSrc K mg "_law_run" s__law_run) (T : Txt T_FREE T_GREAT T_LETTERS T_MARKS T_MOST_CELLS K mg C_Board)  : DefOk P w K mg base nm "_law_run" 1 4 F__law_run := def_ok S sc__law_run (by decide) (fun _ _ _ _ _ _ us hl => match us, hl with | [_, _, _, _], _ => rfl) (bd__law_run T )
abbrev s__law_words : Stmt := top 28
theorem sc__law_words : FnScope ["_law_rows_here", "_law_laying", "_law_grid_here", "_law_line", "_law_runs", "_law_row", "_law_column", "_law_sign_here", "_law_run_here"] ["_law_rows_here", "_law_laying"] (defScope s__law_words) := ⟨rfl, rfl, rfl, by decide +kernel, rfl, by decide +kernel, by decide +kernel⟩
theorem bd__law_words (T : Txt T_FREE T_GREAT T_LETTERS T_MARKS T_MOST_CELLS K mg C_Board) (h__law_grid : DefOk P w K mg base nm "_law_grid" 1 2 F__law_grid) (h__law_run : DefOk P w K mg base nm "_law_run" 1 4 F__law_run) : Bd P w K mg base nm ["_law_rows_here", "_law_laying", "_law_grid_here", "_law_line", "_law_runs", "_law_row", "_law_column", "_law_sign_here", "_law_run_here"] "_law_words" s__law_words 1 m__law_words := fun f cdv A outer s H E hr => by
  have hu := room_u hr
  have hu4 := room_u4 hr
  have sc := sc__law_words
  unfold m__law_words m__law_words_e1 m__law_words_b0
  exact (bv_cons (sv_set (i := 2) sc.nd (ev_callF h__law_grid hr (av_cons (ev_var 0) (av_cons (ev_var 1) av_nil))))
  (bv_cons (sv_set (i := 3) sc.nd (ev_ct call_int1 opn_int T.b_int (av_cons (ev_cmp (op_neD hu4) op2_ne (ev_ix hu (ev_ix hu (ev_var 1) ev_int) ev_int) (ev_ix hu (ev_ix hu (ev_var 1) (ev_un un_neg op1_neg ev_int)) ev_int)) av_nil)))
  (bv_cons (sv_set (i := 4) sc.nd (ev_lst true (av_cons (ev_callF h__law_run hr (av_cons (ev_var 2) (av_cons (ev_ix hu (ev_ix hu (ev_var 1) ev_int) ev_int) (av_cons (ev_ix hu (ev_ix hu (ev_var 1) ev_int) ev_int) (av_cons (ev_var 3) av_nil))))) av_nil)))
  (bv_cons (sv_for PassesOwn.never rfl (iv_val (ev_var 1)) (gv_tup rfl (gvs_cons (gv_name 5 sc.nd) (gvs_cons (gv_name 6 sc.nd) (gvs_cons (gv_name 7 sc.nd) gvs_nil)))) (bv_one (sv_expr (ev_bm PySem.F.plainAttrs_list PySem.F.slot_list_append PySem.F.type_list_append mt_append opm_append (ev_var 4) (av_cons (ev_callF h__law_run hr (av_cons (ev_var 2) (av_cons (ev_var 5) (av_cons (ev_var 6) (av_cons (ev_bin op_sub op2_sub ev_int (ev_var 3)) av_nil))))) av_nil)))))
  (bv_one (sv_ret (ev_ct call_tuple_of opn_tuple T.b_tuple (av_cons (ev_lcIf false rfl sc.nd (iv_val (ev_var 4)) [("_law_run_here", 8)] (by first | (change blkC ["_law_rows_here", "_law_laying", "_law_grid_here", "_law_line", "_law_runs", "_law_row", "_law_column", "_law_sign_here", "_law_run_here"] (defScope s__law_words) _ _ = true; decide +kernel) | kernel_rfl) (by decide) (fun _ _ _ _ _ => (gv_name 8 sc.nd)) (fun _ _ _ _ _ => (tv_cmp (opr_gt hu4) op2_gt (ev_cb callr_len opn_len T.b_len (av_cons (ev_ix hu (ev_var 8) ev_int) av_nil)) ev_int)) (fun _ _ _ _ _ => (ev_var 8))) av_nil))))))))
theorem ok__law_words (S : DefSrc K mg "_law_words" s__law_words) (T : Txt T_FREE T_GREAT T_LETTERS T_MARKS T_MOST_CELLS K mg C_Board) (h__law_grid : DefOk P w K mg base nm "_law_grid" 1 2 F__law_grid) (h__law_run : DefOk P w K mg base nm "_law_run" 1 4 F__law_run) : DefOk P w K mg base nm "_law_words" 2 2 F__law_words := def_ok S sc__law_words (by decide) (fun _ _ _ _ _ _ us hl => match us, hl with | [_, _], _ => rfl) (bd__law_words T h__law_grid h__law_run)
abbrev s_Board_laid : Stmt := inClass (top 18) 5
theorem sc_Board_laid : FnScope ["self", "laying", "rows", "row", "column", "sign"] ["self", "laying"] (defScope s_Board_laid) := ⟨rfl, rfl, rfl, by decide +kernel, rfl, by decide +kernel, by decide +kernel⟩
theorem bd_Board_laid (T : Txt T_FREE T_GREAT T_LETTERS T_MARKS T_MOST_CELLS K mg C_Board) (h_Board___init__ : InitOk P w K mg base nm C_Board 3 4 F_Board___init__) : Bd P w K mg base nm ["self", "laying", "rows", "row", "column", "sign"] "Board.laid" s_Board_laid 4 m_Board_laid := fun f cdv A outer s H E hr => by
  have hu := room_u hr
  have hu4 := room_u4 hr
  have sc := sc_Board_laid
  unfold m_Board_laid m_Board_laid_e2 m_Board_laid_b1 m_Board_laid_e0
  exact (bv_cons (sv_setLc false (i := 2) rfl sc.nd (iv_val (ev_fld T.k_Board (ev_var 0))) [("row", 3)] (by first | (change blkC ["self", "laying", "rows", "row", "column", "sign"] (defScope s_Board_laid) _ _ = true; decide +kernel) | kernel_rfl) (by decide) (fun _ _ _ _ _ => (gv_name 3 sc.nd)) (fun _ _ _ _ _ => (ev_ct (call_listA rfl) (opn_listA (fl := true)) T.b_list (av_cons (ev_var 3) av_nil))) (sw_true rfl rfl rfl (by decide +kernel)))
  (bv_cons (sv_for PassesOwn.never rfl (iv_val (ev_var 1)) (gv_tup rfl (gvs_cons (gv_name 3 sc.nd) (gvs_cons (gv_name 4 sc.nd) (gvs_cons (gv_name 5 sc.nd) gvs_nil)))) (bv_one (sv_sub hu (ev_var 5) (ev_ix hu (ev_var 2) (ev_var 3)) (ev_var 4))))
  (bv_one (sv_ret (ev_makeF T.k_Board h_Board___init__ hr (av_cons (ev_ct call_tuple_of opn_tuple T.b_tuple (av_cons (ev_lc false rfl sc.nd (iv_val (ev_var 2)) [("row", 3)] (by first | (change blkC ["self", "laying", "rows", "row", "column", "sign"] (defScope s_Board_laid) _ _ = true; decide +kernel) | kernel_rfl) (by decide) (fun _ _ _ _ _ => (gv_name 3 sc.nd)) (fun _ _ _ _ _ => (ev_bm PySem.F.plainAttrs_str PySem.F.slot_str_join PySem.F.type_str_join mt_join opm_join (ev_str []) (av_cons (ev_var 3) av_nil)))) av_nil)) (av_cons (ev_fld T.k_Board (ev_var 0)) (av_cons (ev_fld T.k_Board (ev_var 0)) av_nil))))))))
theorem ok_Board_laid (S : MethSrc K C_Board "laid" "Board.laid" s_Board_laid) (T : Txt T_FREE T_GREAT T_LETTERS T_MARKS T_MOST_CELLS K mg C_Board) (h_Board___init__ : InitOk P w K mg base nm C_Board 3 4 F_Board___init__) : MethOk P w K mg base nm C_Board "laid" 5 2 F_Board_laid := meth_ok S sc_Board_laid (by decide) (fun _ _ _ _ _ _ us hl => match us, hl with | [_, _], _ => rfl) (bd_Board_laid T h_Board___init__)
abbrev s_Board_at : Stmt := inClass (top 18) 1
theorem sc_Board_at : FnScope ["self", "row", "column"] ["self", "row", "column"] (defScope s_Board_at) := ⟨rfl, rfl, rfl, by decide +kernel, rfl, by decide +kernel, by decide +kernel⟩
theorem bd_Board_at (T : Txt T_FREE T_GREAT T_LETTERS T_MARKS T_MOST_CELLS K mg C_Board)  : Bd P w K mg base nm ["self", "row", "column"] "Board.at" s_Board_at 0 m_Board_at := fun f cdv A outer s H E hr => by
  have hu := room_u hr
  have hu4 := room_u4 hr
  have sc := sc_Board_at
  unfold m_Board_at
  exact (bv_cons (sv_if (tv_w (wv_or (tv_not (tv_chain (opr_le hu4) (opr_lt hu4) op2_le op2_lt ev_int (ev_var 1) (ev_cb callr_len opn_len T.b_len (av_cons (ev_fld T.k_Board (ev_var 0)) av_nil)))) (wv_or1 (tv_not (tv_chain (opr_le hu4) (opr_lt hu4) op2_le op2_lt ev_int (ev_var 2) (ev_cb callr_len opn_len T.b_len (av_cons (ev_ix hu (ev_fld T.k_Board (ev_var 0)) ev_int) av_nil))))))) (bv_one (sv_ret (ev_globS [46] T.c_FREE))) bv_nil)
  (bv_one (sv_ret (ev_ix hu (ev_ix hu (ev_fld T.k_Board (ev_var 0)) (ev_var 1)) (ev_var 2)))))
theorem ok_Board_at (S : MethSrc K C_Board "at" "Board.at" s_Board_at) (T : Txt T_FREE T_GREAT T_LETTERS T_MARKS T_MOST_CELLS K mg C_Board)  : MethOk P w K mg base nm C_Board "at" 1 3 F_Board_at := meth_ok S sc_Board_at (by decide) (fun _ _ _ _ _ _ us hl => match us, hl with | [_, _, _], _ => rfl) (bd_Board_at T )
abbrev s_Board_run : Stmt := inClass (top 18) 3
theorem sc_Board_run : FnScope ["self", "row", "column", "way", "down", "across", "signs"] ["self", "row", "column", "way"] (defScope s_Board_run) := ⟨rfl, rfl, rfl, by decide +kernel, rfl, by decide +kernel, by decide +kernel⟩
theorem bd_Board_run (T : Txt T_FREE T_GREAT T_LETTERS T_MARKS T_MOST_CELLS K mg C_Board) (h_Board_at : MethOk P w K mg base nm C_Board "at" 1 3 F_Board_at) : Bd P w K mg base nm ["self", "row", "column", "way", "down", "across", "signs"] "Board.run" s_Board_run 1 m_Board_run := fun f cdv A outer s H E hr => by
  have hu := room_u hr
  have hu4 := room_u4 hr
  have sc := sc_Board_run
  unfold m_Board_run m_Board_run_w1 m_Board_run_w0
  exact (bv_cons (sv_set (i := 4) sc.nd (ev_var 3))
  (bv_cons (sv_set (i := 5) sc.nd (ev_bin op_sub op2_sub ev_int (ev_var 3)))
  (bv_cons (sv_while PassesOwn.never (tv_cmp (op_neD hu4) op2_ne (ev_methF T.k_Board h_Board_at hr (ev_var 0) (av_cons (ev_bin op_sub op2_sub (ev_var 1) (ev_var 4)) (av_cons (ev_bin op_sub op2_sub (ev_var 2) (ev_var 5)) av_nil))) (ev_globS [46] T.c_FREE)) (bv_cons (sv_aug (i := 1) ip_sub op2_isub sc.nd (ev_var 4))
  (bv_one (sv_aug (i := 2) ip_sub op2_isub sc.nd (ev_var 5)))))
  (bv_cons (sv_set (i := 6) sc.nd (ev_str []))
  (bv_cons (sv_while PassesOwn.never (tv_cmp (op_neD hu4) op2_ne (ev_methF T.k_Board h_Board_at hr (ev_var 0) (av_cons (ev_bin opr_add (op2_add (fl := false)) (ev_var 1) (ev_bin opr_mul (op2_mul (fl := false)) (ev_var 4) (ev_cb callr_len opn_len T.b_len (av_cons (ev_var 6) av_nil)))) (av_cons (ev_bin opr_add (op2_add (fl := false)) (ev_var 2) (ev_bin opr_mul (op2_mul (fl := false)) (ev_var 5) (ev_cb callr_len opn_len T.b_len (av_cons (ev_var 6) av_nil)))) av_nil))) (ev_globS [46] T.c_FREE)) (bv_one (sv_aug (i := 6) ipr_add op2_iadd sc.nd (ev_methF T.k_Board h_Board_at hr (ev_var 0) (av_cons (ev_bin opr_add (op2_add (fl := false)) (ev_var 1) (ev_bin opr_mul (op2_mul (fl := false)) (ev_var 4) (ev_cb callr_len opn_len T.b_len (av_cons (ev_var 6) av_nil)))) (av_cons (ev_bin opr_add (op2_add (fl := false)) (ev_var 2) (ev_bin opr_mul (op2_mul (fl := false)) (ev_var 5) (ev_cb callr_len opn_len T.b_len (av_cons (ev_var 6) av_nil)))) av_nil))))))
  (bv_one (sv_ret (ev_tup (av_cons (ev_var 1) (av_cons (ev_var 2) (av_cons (ev_var 6) av_nil)))))))))))
theorem ok_Board_run (S : MethSrc K C_Board "run" "Board.run" s_Board_run) (T : Txt T_FREE T_GREAT T_LETTERS T_MARKS T_MOST_CELLS K mg C_Board) (h_Board_at : MethOk P w K mg base nm C_Board "at" 1 3 F_Board_at) : MethOk P w K mg base nm C_Board "run" 2 4 F_Board_run := meth_ok S sc_Board_run (by decide) (fun _ _ _ _ _ _ us hl => match us, hl with | [_, _, _, _], _ => rfl) (bd_Board_run T h_Board_at)
abbrev s_way_of : Stmt := top 9
theorem sc_way_of : FnScope ["laying"] ["laying"] (defScope s_way_of) := ⟨rfl, rfl, rfl, by decide +kernel, rfl, by decide +kernel, by decide +kernel⟩
theorem bd_way_of (T : Txt T_FREE T_GREAT T_LETTERS T_MARKS T_MOST_CELLS K mg C_Board)  : Bd P w K mg base nm ["laying"] "way_of" s_way_of 0 m_way_of := fun f cdv A outer s H E hr => by
  have hu := room_u hr
  have hu4 := room_u4 hr
  have sc := sc_way_of
  unfold m_way_of
  exact (bv_one (sv_ret (ev_ct call_int1 opn_int T.b_int (av_cons (ev_cmp (op_neD hu4) op2_ne (ev_ix hu (ev_ix hu (ev_var 0) ev_int) ev_int) (ev_ix hu (ev_ix hu (ev_var 0) (ev_un un_neg op1_neg ev_int)) ev_int)) av_nil))))
theorem ok_way_of (S : DefSrc K mg "way_of" s_way_of) (T : Txt T_FREE T_GREAT T_LETTERS T_MARKS T_MOST_CELLS K mg C_Board)  : DefOk P w K mg base nm "way_of" 1 1 F_way_of := def_ok S sc_way_of (by decide) (fun _ _ _ _ _ _ us hl => match us, hl with | [_], _ => rfl) (bd_way_of T )
abbrev s_formed : Stmt := top 10
theorem sc_formed : FnScope ["board", "laying", "after", "line", "asked", "found", "triple", "way", "row", "column", "signs"] ["board", "laying"] (defScope s_formed) := ⟨rfl, rfl, rfl, by decide +kernel, rfl, by decide +kernel, by decide +kernel⟩
theorem bd_formed (T : Txt T_FREE T_GREAT T_LETTERS T_MARKS T_MOST_CELLS K mg C_Board) (h_Board_laid : MethOk P w K mg base nm C_Board "laid" 5 2 F_Board_laid) (h_Board_run : MethOk P w K mg base nm C_Board "run" 2 4 F_Board_run) (h_way_of : DefOk P w K mg base nm "way_of" 1 1 F_way_of) : Bd P w K mg base nm ["board", "laying", "after", "line", "asked", "found", "triple", "way", "row", "column", "signs"] "formed" s_formed 5 m_formed := fun f cdv A outer s H E hr => by
  have hu := room_u hr
  have hu4 := room_u4 hr
  have sc := sc_formed
  unfold m_formed m_formed_b1 m_formed_e0
  exact (bv_cons (sv_set (i := 2) sc.nd (ev_methF T.k_Board h_Board_laid hr (ev_var 0) (av_cons (ev_var 1) av_nil)))
  (bv_cons (sv_set (i := 3) sc.nd (ev_callF h_way_of hr (av_cons (ev_var 1) av_nil)))
  (bv_cons (sv_set (i := 4) sc.nd (ev_bin opr_add (op2_add (fl := false)) (ev_lst false (av_cons (ev_tup (av_cons (ev_ix hu (ev_var 1) ev_int) (av_cons (ev_var 3) av_nil))) av_nil)) (ev_lc false rfl sc.nd (iv_val (ev_var 1)) [("triple", 6)] (by first | (change blkC ["board", "laying", "after", "line", "asked", "found", "triple", "way", "row", "column", "signs"] (defScope s_formed) _ _ = true; decide +kernel) | kernel_rfl) (by decide) (fun _ _ _ _ _ => (gv_name 6 sc.nd)) (fun _ _ _ _ _ => (ev_tup (av_cons (ev_var 6) (av_cons (ev_bin op_sub op2_sub ev_int (ev_var 3)) av_nil)))))))
  (bv_cons (sv_set (i := 5) sc.nd (ev_lst true av_nil))
  (bv_cons (sv_for PassesOwn.never rfl (iv_val (ev_var 4)) (gv_tup rfl (gvs_cons (gv_name 6 sc.nd) (gvs_cons (gv_name 7 sc.nd) gvs_nil))) (bv_cons (sv_asg (ev_methF T.k_Board h_Board_run hr (ev_var 2) (av_cons (ev_ix hu (ev_var 6) ev_int) (av_cons (ev_ix hu (ev_var 6) ev_int) (av_cons (ev_var 7) av_nil)))) (gv_tup rfl (gvs_cons (gv_name 8 sc.nd) (gvs_cons (gv_name 9 sc.nd) (gvs_cons (gv_name 10 sc.nd) gvs_nil)))))
  (bv_one (sv_if (tv_cmp (opr_gt hu4) op2_gt (ev_cb callr_len opn_len T.b_len (av_cons (ev_var 10) av_nil)) ev_int) (bv_one (sv_expr (ev_bm PySem.F.plainAttrs_list PySem.F.slot_list_append PySem.F.type_list_append mt_append opm_append (ev_var 5) (av_cons (ev_tup (av_cons (ev_var 8) (av_cons (ev_var 9) (av_cons (ev_var 7) (av_cons (ev_var 10) av_nil))))) av_nil)))) bv_nil))))
  (bv_one (sv_ret (ev_ct call_tuple_of opn_tuple T.b_tuple (av_cons (ev_var 5) av_nil)))))))))
theorem ok_formed (S : DefSrc K mg "formed" s_formed) (T : Txt T_FREE T_GREAT T_LETTERS T_MARKS T_MOST_CELLS K mg C_Board) (h_Board_laid : MethOk P w K mg base nm C_Board "laid" 5 2 F_Board_laid) (h_Board_run : MethOk P w K mg base nm C_Board "run" 2 4 F_Board_run) (h_way_of : DefOk P w K mg base nm "way_of" 1 1 F_way_of) : DefOk P w K mg base nm "formed" 6 2 F_formed := def_ok S sc_formed (by decide) (fun _ _ _ _ _ _ us hl => match us, hl with | [_, _], _ => rfl) (bd_formed T h_Board_laid h_Board_run h_way_of)
abbrev s_law : Stmt := top 33
theorem sc_law : FnScope ["_law_script", "_law_letters_here", "_law_rows_here", "_law_board", "_law_cell", "_law_laying", "_law_due"] ["_law_script"] (defScope s_law) := ⟨rfl, rfl, rfl, by decide +kernel, rfl, by decide +kernel, by decide +kernel⟩
theorem bd_law (T : Txt T_FREE T_GREAT T_LETTERS T_MARKS T_MOST_CELLS K mg C_Board) (h_Board___init__ : InitOk P w K mg base nm C_Board 3 4 F_Board___init__) (h__law_alike : DefOk P w K mg base nm "_law_alike" 12 2 F__law_alike) (h__law_cell_at : DefOk P w K mg base nm "_law_cell_at" 1 2 F__law_cell_at) (h__law_draw : DefOk P w K mg base nm "_law_draw" 1 2 F__law_draw) (h__law_letters : DefOk P w K mg base nm "_law_letters" 1 1 F__law_letters) (h__law_marks : DefOk P w K mg base nm "_law_marks" 2 2 F__law_marks) (h__law_rows : DefOk P w K mg base nm "_law_rows" 2 2 F__law_rows) (h__law_straight : DefOk P w K mg base nm "_law_straight" 3 4 F__law_straight) (h__law_words : DefOk P w K mg base nm "_law_words" 2 2 F__law_words) (h_formed : DefOk P w K mg base nm "formed" 6 2 F_formed) : Bd P w K mg base nm ["_law_script", "_law_letters_here", "_law_rows_here", "_law_board", "_law_cell", "_law_laying", "_law_due"] "law" s_law 12 m_law := fun f cdv A outer s H E hr => by
  have hu := room_u hr
  have hu4 := room_u4 hr
  have sc := sc_law
  unfold m_law m_law_b0
  exact (bv_cons (sv_set (i := 1) sc.nd (ev_callF h__law_letters hr (av_cons (ev_callF h__law_cell_at hr (av_cons (ev_var 0) (av_cons ev_int av_nil))) av_nil)))
  (bv_cons (sv_set (i := 2) sc.nd (ev_callF h__law_rows hr (av_cons (ev_var 0) (av_cons (ev_var 1) av_nil))))
  (bv_cons (sv_set (i := 3) sc.nd (ev_makeF T.k_Board h_Board___init__ hr (av_cons (ev_var 2) (av_cons (ev_callF h__law_marks hr (av_cons (ev_var 2) (av_cons (ev_callF h__law_cell_at hr (av_cons (ev_var 0) (av_cons ev_int av_nil))) av_nil))) (av_cons (ev_tup (av_cons ev_int (av_cons ev_int av_nil))) av_nil)))))
  (bv_cons (sv_for PassesOwn.never rfl (iv_val (ev_sl false (ev_var 0) (ov_some ev_int) (ov_some ev_int))) (gv_name 4 sc.nd) (bv_cons (sv_set (i := 5) sc.nd (ev_callF h__law_straight hr (av_cons (ev_var 2) (av_cons (ev_callF h__law_draw hr (av_cons (ev_var 4) (av_cons ev_int av_nil))) (av_cons (ev_var 1) (av_cons (ev_bin opr_add (op2_add (fl := false)) ev_int (ev_bin op_mod op2_mod (ev_var 4) ev_int)) av_nil))))))
  (bv_cons (sv_set (i := 6) sc.nd (ev_callF h__law_words hr (av_cons (ev_var 2) (av_cons (ev_var 5) av_nil))))
  (bv_cons (sv_if (tv_not (tv_val (ev_callF h__law_alike hr (av_cons (ev_callF h_formed hr (av_cons (ev_var 3) (av_cons (ev_var 5) av_nil))) (av_cons (ev_var 6) av_nil))))) (bv_one (sv_ret ev_bl)) bv_nil)
  (bv_one (sv_if (tv_w (wv_or (tv_not (tv_val (ev_callF h__law_alike hr (av_cons (ev_callF h_formed hr (av_cons (ev_var 3) (av_cons (ev_var 5) av_nil))) (av_cons (ev_var 6) av_nil))))) (wv_or1 (tv_cmp (op_neD hu4) op2_ne (ev_fld T.k_Board (ev_var 3)) (ev_var 2))))) (bv_one (sv_ret ev_bl)) bv_nil))))))
  (bv_one (sv_ret ev_bl))))))
end
section
variable {P : Program} {w : World} {K : PySem.W.Frag} {mg : Str → Option Value} {C_Board : Addr} {T_FREE T_GREAT T_LETTERS T_MARKS T_MOST_CELLS : Tok}
theorem ok_all (T : Txt T_FREE T_GREAT T_LETTERS T_MARKS T_MOST_CELLS K mg C_Board) (S_are_rows : DefSrc K mg "are_rows" s_are_rows) (S_is_whole : DefSrc K mg "is_whole" s_is_whole) (S_is_cell : DefSrc K mg "is_cell" s_is_cell) (S_is_sign : DefSrc K mg "is_sign" s_is_sign) (S_Board___init__ : InitSrc K C_Board "Board.__init__" s_Board___init__) (S__law_alike : DefSrc K mg "_law_alike" s__law_alike) (S__law_cell_at : DefSrc K mg "_law_cell_at" s__law_cell_at) (S__law_draw : DefSrc K mg "_law_draw" s__law_draw) (S__law_letters : DefSrc K mg "_law_letters" s__law_letters) (S__law_marks : DefSrc K mg "_law_marks" s__law_marks) (S__law_sign : DefSrc K mg "_law_sign" s__law_sign) (S__law_rows : DefSrc K mg "_law_rows" s__law_rows) (S__law_is_near : DefSrc K mg "_law_is_near" s__law_is_near) (S__law_starts : DefSrc K mg "_law_starts" s__law_starts) (S__law_straight : DefSrc K mg "_law_straight" s__law_straight) (S__law_grid : DefSrc K mg "_law_grid" s__law_grid) (S__law_run : DefSrc K mg "_law_run" s__law_run) (S__law_words : DefSrc K mg "_law_words" s__law_words) (S_Board_laid : MethSrc K C_Board "laid" "Board.laid" s_Board_laid) (S_Board_at : MethSrc K C_Board "at" "Board.at" s_Board_at) (S_Board_run : MethSrc K C_Board "run" "Board.run" s_Board_run) (S_way_of : DefSrc K mg "way_of" s_way_of) (S_formed : DefSrc K mg "formed" s_formed) (S_law : DefSrc K mg "law" s_law) : ∃ (fa : Addr) (fd : FuncData) (y : Str), mg "law" = some (.ref fa) ∧ (∀ (s : Shared) (u : Value), BindsTo s fd ⟨[u], []⟩ [(y, u)]) ∧ y = "_law_script" ∧ ∀ base : Heap, K.In base → base.Ns mainGlobals mg → FnOk P w K mg base CX0 13 fa fd [y] (spG0 ⟨K, mg, nm⟩ 1 F_law) :=
  law_end S_law sc_law (by decide) (fun _ _ _ _ _ _ us hl => match us, hl with | [_], _ => rfl) fun base h1 h2 => by
    have h_are_rows : DefOk P w K mg base nm "are_rows" 1 1 F_are_rows := ok_are_rows S_are_rows T 
    have h_is_whole : DefOk P w K mg base nm "is_whole" 1 1 F_is_whole := ok_is_whole S_is_whole T 
    have h_is_cell : DefOk P w K mg base nm "is_cell" 2 2 F_is_cell := ok_is_cell S_is_cell T h_is_whole
    have h_is_sign : DefOk P w K mg base nm "is_sign" 1 1 F_is_sign := ok_is_sign S_is_sign T 
    have h_Board___init__ : InitOk P w K mg base nm C_Board 3 4 F_Board___init__ := ok_Board___init__ S_Board___init__ T h_are_rows h_is_cell h_is_sign
    have h__law_alike : DefOk P w K mg base nm "_law_alike" 12 2 F__law_alike := ok__law_alike S__law_alike T 
    have h__law_cell_at : DefOk P w K mg base nm "_law_cell_at" 1 2 F__law_cell_at := ok__law_cell_at S__law_cell_at T 
    have h__law_draw : DefOk P w K mg base nm "_law_draw" 1 2 F__law_draw := ok__law_draw S__law_draw T 
    have h__law_letters : DefOk P w K mg base nm "_law_letters" 1 1 F__law_letters := ok__law_letters S__law_letters T 
    have h__law_marks : DefOk P w K mg base nm "_law_marks" 2 2 F__law_marks := ok__law_marks S__law_marks T h__law_draw
    have h__law_sign : DefOk P w K mg base nm "_law_sign" 1 2 F__law_sign := ok__law_sign S__law_sign T 
    have h__law_rows : DefOk P w K mg base nm "_law_rows" 2 2 F__law_rows := ok__law_rows S__law_rows T h__law_cell_at h__law_draw h__law_sign
    have h__law_is_near : DefOk P w K mg base nm "_law_is_near" 1 3 F__law_is_near := ok__law_is_near S__law_is_near T 
    have h__law_starts : DefOk P w K mg base nm "_law_starts" 2 2 F__law_starts := ok__law_starts S__law_starts T h__law_is_near
    have h__law_straight : DefOk P w K mg base nm "_law_straight" 3 4 F__law_straight := ok__law_straight S__law_straight T h__law_draw h__law_sign h__law_starts
    have h__law_grid : DefOk P w K mg base nm "_law_grid" 1 2 F__law_grid := ok__law_grid S__law_grid T 
    have h__law_run : DefOk P w K mg base nm "_law_run" 1 4 F__law_run := ok__law_run S__law_run T 
    have h__law_words : DefOk P w K mg base nm "_law_words" 2 2 F__law_words := ok__law_words S__law_words T h__law_grid h__law_run
    have h_Board_laid : MethOk P w K mg base nm C_Board "laid" 5 2 F_Board_laid := ok_Board_laid S_Board_laid T h_Board___init__
    have h_Board_at : MethOk P w K mg base nm C_Board "at" 1 3 F_Board_at := ok_Board_at S_Board_at T 
    have h_Board_run : MethOk P w K mg base nm C_Board "run" 2 4 F_Board_run := ok_Board_run S_Board_run T h_Board_at
    have h_way_of : DefOk P w K mg base nm "way_of" 1 1 F_way_of := ok_way_of S_way_of T 
    have h_formed : DefOk P w K mg base nm "formed" 6 2 F_formed := ok_formed S_formed T h_Board_laid h_Board_run h_way_of
    exact bd_law T h_Board___init__ h__law_alike h__law_cell_at h__law_draw h__law_letters h__law_marks h__law_rows h__law_straight h__law_words h_formed
end
end T20
namespace T20
open PySem L2 Lr
theorem nf_Board {K : PySem.W.Frag} {C : Addr} (h0 : NoAttr K C "rows") (h1 : NoAttr K C "marks") (h2 : NoAttr K C "begin") : ∀ x ∈ nm.cf 0, NoAttr K C x := by
  intro x h
  have h : x ∈ (["rows", "marks", "begin"] : List Str) := h
  simp only [List.mem_cons, List.not_mem_nil, or_false] at h
  rcases h with rfl | rfl | rfl
  · exact h0
  · exact h1
  · exact h2
end T20
namespace T20
open PySem L2 Lr
theorem all_mk {P : Program} {w : World} {K : PySem.W.Frag} {h : Heap} {mg : Str → Option Value} (X : K.In h) (G : h.Ns mainGlobals mg) {f_are_rows f_is_whole f_is_cell f_is_sign f_Board___init__ f__law_alike f__law_cell_at f__law_draw f__law_letters f__law_marks f__law_sign f__law_rows f__law_is_near f__law_starts f__law_straight f__law_grid f__law_run f__law_words f_Board_laid f_Board_at f_Board_run f_way_of f_formed f_law C_Board : Addr} {T_FREE T_GREAT T_LETTERS T_MARKS T_MOST_CELLS : Tok} {oc_are_rows kV_are_rows doc_are_rows pm_are_rows cd_are_rows ct_are_rows : Value} {od_are_rows an_are_rows : Option Addr} {sl_are_rows : Array (Option Value)} {oc_is_whole kV_is_whole doc_is_whole pm_is_whole cd_is_whole ct_is_whole : Value} {od_is_whole an_is_whole : Option Addr} {sl_is_whole : Array (Option Value)} {oc_is_cell kV_is_cell doc_is_cell pm_is_cell cd_is_cell ct_is_cell : Value} {od_is_cell an_is_cell : Option Addr} {sl_is_cell : Array (Option Value)} {oc_is_sign kV_is_sign doc_is_sign pm_is_sign cd_is_sign ct_is_sign : Value} {od_is_sign an_is_sign : Option Addr} {sl_is_sign : Array (Option Value)} {oc_Board___init__ kV_Board___init__ doc_Board___init__ pm_Board___init__ cd_Board___init__ ct_Board___init__ : Value} {od_Board___init__ an_Board___init__ : Option Addr} {sl_Board___init__ : Array (Option Value)} {oc__law_alike kV__law_alike doc__law_alike pm__law_alike cd__law_alike ct__law_alike : Value} {od__law_alike an__law_alike : Option Addr} {sl__law_alike : Array (Option Value)} {oc__law_cell_at kV__law_cell_at doc__law_cell_at pm__law_cell_at cd__law_cell_at ct__law_cell_at : Value} {od__law_cell_at an__law_cell_at : Option Addr} {sl__law_cell_at : Array (Option Value)} {oc__law_draw kV__law_draw doc__law_draw pm__law_draw cd__law_draw ct__law_draw : Value} {od__law_draw an__law_draw : Option Addr} {sl__law_draw : Array (Option Value)} {oc__law_letters kV__law_letters doc__law_letters pm__law_letters cd__law_letters ct__law_letters : Value} {od__law_letters an__law_letters : Option Addr} {sl__law_letters : Array (Option Value)} {oc__law_marks kV__law_marks doc__law_marks pm__law_marks cd__law_marks ct__law_marks : Value} {od__law_marks an__law_marks : Option Addr} {sl__law_marks : Array (Option Value)} {oc__law_sign kV__law_sign doc__law_sign pm__law_sign cd__law_sign ct__law_sign : Value} {od__law_sign an__law_sign : Option Addr} {sl__law_sign : Array (Option Value)} {oc__law_rows kV__law_rows doc__law_rows pm__law_rows cd__law_rows ct__law_rows : Value} {od__law_rows an__law_rows : Option Addr} {sl__law_rows : Array (Option Value)} {oc__law_is_near kV__law_is_near doc__law_is_near pm__law_is_near cd__law_is_near ct__law_is_near : Value} {od__law_is_near an__law_is_near : Option Addr} {sl__law_is_near : Array (Option Value)} {oc__law_starts kV__law_starts doc__law_starts pm__law_starts cd__law_starts ct__law_starts : Value} {od__law_starts an__law_starts : Option Addr} {sl__law_starts : Array (Option Value)} {oc__law_straight kV__law_straight doc__law_straight pm__law_straight cd__law_straight ct__law_straight : Value} {od__law_straight an__law_straight : Option Addr} {sl__law_straight : Array (Option Value)} {oc__law_grid kV__law_grid doc__law_grid pm__law_grid cd__law_grid ct__law_grid : Value} {od__law_grid an__law_grid : Option Addr} {sl__law_grid : Array (Option Value)} {oc__law_run kV__law_run doc__law_run pm__law_run cd__law_run ct__law_run : Value} {od__law_run an__law_run : Option Addr} {sl__law_run : Array (Option Value)} {oc__law_words kV__law_words doc__law_words pm__law_words cd__law_words ct__law_words : Value} {od__law_words an__law_words : Option Addr} {sl__law_words : Array (Option Value)} {oc_Board_laid kV_Board_laid doc_Board_laid pm_Board_laid cd_Board_laid ct_Board_laid : Value} {od_Board_laid an_Board_laid : Option Addr} {sl_Board_laid : Array (Option Value)} {oc_Board_at kV_Board_at doc_Board_at pm_Board_at cd_Board_at ct_Board_at : Value} {od_Board_at an_Board_at : Option Addr} {sl_Board_at : Array (Option Value)} {oc_Board_run kV_Board_run doc_Board_run pm_Board_run cd_Board_run ct_Board_run : Value} {od_Board_run an_Board_run : Option Addr} {sl_Board_run : Array (Option Value)} {oc_way_of kV_way_of doc_way_of pm_way_of cd_way_of ct_way_of : Value} {od_way_of an_way_of : Option Addr} {sl_way_of : Array (Option Value)} {oc_formed kV_formed doc_formed pm_formed cd_formed ct_formed : Value} {od_formed an_formed : Option Addr} {sl_formed : Array (Option Value)} {oc_law kV_law doc_law pm_law cd_law ct_law : Value} {od_law an_law : Option Addr} {sl_law : Array (Option Value)}
    (z_all : PySem.W.nsIn K mainGlobals "all" = some none)
    (z_bool : PySem.W.nsIn K mainGlobals "bool" = some none)
    (z_int : PySem.W.nsIn K mainGlobals "int" = some none)
    (z_isinstance : PySem.W.nsIn K mainGlobals "isinstance" = some none)
    (z_len : PySem.W.nsIn K mainGlobals "len" = some none)
    (z_list : PySem.W.nsIn K mainGlobals "list" = some none)
    (z_range : PySem.W.nsIn K mainGlobals "range" = some none)
    (z_str : PySem.W.nsIn K mainGlobals "str" = some none)
    (z_tuple : PySem.W.nsIn K mainGlobals "tuple" = some none)
    (z_zip : PySem.W.nsIn K mainGlobals "zip" = some none)
    (z_FREE : PySem.W.nsIn K mainGlobals "FREE" = some (some (.str "." T_FREE)))
    (z_GREAT : PySem.W.nsIn K mainGlobals "GREAT" = some (some (.str "ABCDEFGHIJKLMNOPQRSTUVWXYZ" T_GREAT)))
    (z_LETTERS : PySem.W.nsIn K mainGlobals "LETTERS" = some (some (.str "abcdefghijklmnopqrstuvwxyz" T_LETTERS)))
    (z_MARKS : PySem.W.nsIn K mainGlobals "MARKS" = some (some (.str ".234bcd" T_MARKS)))
    (z_MOST_CELLS : PySem.W.nsIn K mainGlobals "MOST_CELLS" = some (some (.int 9 T_MOST_CELLS)))
    (aC_Board : PySem.W.nsIn K mainGlobals "Board" = some (some (.ref C_Board)))
    (pg_Board : PySem.W.plainGet K C_Board Str.empty = true)
    (hd_Board : PySem.W.hasDictIn K C_Board = true)
    (po_Board : PySem.W.plainOver K C_Board = true)
    (sa_Board : PySem.W.findIn K (.ref C_Board) "__setattr__" = some (some (.builtin "object.__setattr__")))
    (n_Board_rows : PySem.W.findIn K (.ref C_Board) "rows" = some none)
    (n_Board_marks : PySem.W.findIn K (.ref C_Board) "marks" = some none)
    (n_Board_begin : PySem.W.findIn K (.ref C_Board) "begin" = some none)
    (mk_Board : PySem.W.makesIn K C_Board = true)
    (kc_Board : PySem.W.keepIn K (.ref C_Board) = true)
    (a_are_rows : PySem.W.nsIn K mainGlobals "are_rows" = some (some (.ref f_are_rows)))
    (l_are_rows : K.lookup f_are_rows = some ⟨oc_are_rows, od_are_rows, .func (PySem.W.fnOf "are_rows" "are_rows" (defArgs s_are_rows) (defBody s_are_rows) (defScope s_are_rows) .none kV_are_rows doc_are_rows pm_are_rows an_are_rows cd_are_rows ct_are_rows), sl_are_rows⟩)
    (c_are_rows : PySem.W.codeIn K cd_are_rows "are_rows" = true)
    (k_are_rows : PySem.W.keepIn K (.ref f_are_rows) = true)
    (a_is_whole : PySem.W.nsIn K mainGlobals "is_whole" = some (some (.ref f_is_whole)))
    (l_is_whole : K.lookup f_is_whole = some ⟨oc_is_whole, od_is_whole, .func (PySem.W.fnOf "is_whole" "is_whole" (defArgs s_is_whole) (defBody s_is_whole) (defScope s_is_whole) .none kV_is_whole doc_is_whole pm_is_whole an_is_whole cd_is_whole ct_is_whole), sl_is_whole⟩)
    (c_is_whole : PySem.W.codeIn K cd_is_whole "is_whole" = true)
    (k_is_whole : PySem.W.keepIn K (.ref f_is_whole) = true)
    (a_is_cell : PySem.W.nsIn K mainGlobals "is_cell" = some (some (.ref f_is_cell)))
    (l_is_cell : K.lookup f_is_cell = some ⟨oc_is_cell, od_is_cell, .func (PySem.W.fnOf "is_cell" "is_cell" (defArgs s_is_cell) (defBody s_is_cell) (defScope s_is_cell) .none kV_is_cell doc_is_cell pm_is_cell an_is_cell cd_is_cell ct_is_cell), sl_is_cell⟩)
    (c_is_cell : PySem.W.codeIn K cd_is_cell "is_cell" = true)
    (k_is_cell : PySem.W.keepIn K (.ref f_is_cell) = true)
    (a_is_sign : PySem.W.nsIn K mainGlobals "is_sign" = some (some (.ref f_is_sign)))
    (l_is_sign : K.lookup f_is_sign = some ⟨oc_is_sign, od_is_sign, .func (PySem.W.fnOf "is_sign" "is_sign" (defArgs s_is_sign) (defBody s_is_sign) (defScope s_is_sign) .none kV_is_sign doc_is_sign pm_is_sign an_is_sign cd_is_sign ct_is_sign), sl_is_sign⟩)
    (c_is_sign : PySem.W.codeIn K cd_is_sign "is_sign" = true)
    (k_is_sign : PySem.W.keepIn K (.ref f_is_sign) = true)
    (a_Board___init__ : PySem.W.findIn K (.ref C_Board) "__init__" = some (some (.ref f_Board___init__)))
    (i_Board___init__ : PySem.W.isFn K (.ref f_Board___init__) = true)
    (l_Board___init__ : K.lookup f_Board___init__ = some ⟨oc_Board___init__, od_Board___init__, .func (PySem.W.fnOf "__init__" "Board.__init__" (defArgs s_Board___init__) (defBody s_Board___init__) (defScope s_Board___init__) .none kV_Board___init__ doc_Board___init__ pm_Board___init__ an_Board___init__ cd_Board___init__ ct_Board___init__), sl_Board___init__⟩)
    (c_Board___init__ : PySem.W.codeIn K cd_Board___init__ "Board.__init__" = true)
    (k_Board___init__ : PySem.W.keepIn K (.ref f_Board___init__) = true)
    (a__law_alike : PySem.W.nsIn K mainGlobals "_law_alike" = some (some (.ref f__law_alike)))
    (l__law_alike : K.lookup f__law_alike = some ⟨oc__law_alike, od__law_alike, .func (PySem.W.fnOf "_law_alike" "_law_alike" (defArgs s__law_alike) (defBody s__law_alike) (defScope s__law_alike) .none kV__law_alike doc__law_alike pm__law_alike an__law_alike cd__law_alike ct__law_alike), sl__law_alike⟩)
    (c__law_alike : PySem.W.codeIn K cd__law_alike "_law_alike" = true)
    (k__law_alike : PySem.W.keepIn K (.ref f__law_alike) = true)
    (a__law_cell_at : PySem.W.nsIn K mainGlobals "_law_cell_at" = some (some (.ref f__law_cell_at)))
    (l__law_cell_at : K.lookup f__law_cell_at = some ⟨oc__law_cell_at, od__law_cell_at, .func (PySem.W.fnOf "_law_cell_at" "_law_cell_at" (defArgs s__law_cell_at) (defBody s__law_cell_at) (defScope s__law_cell_at) .none kV__law_cell_at doc__law_cell_at pm__law_cell_at an__law_cell_at cd__law_cell_at ct__law_cell_at), sl__law_cell_at⟩)
    (c__law_cell_at : PySem.W.codeIn K cd__law_cell_at "_law_cell_at" = true)
    (k__law_cell_at : PySem.W.keepIn K (.ref f__law_cell_at) = true)
    (a__law_draw : PySem.W.nsIn K mainGlobals "_law_draw" = some (some (.ref f__law_draw)))
    (l__law_draw : K.lookup f__law_draw = some ⟨oc__law_draw, od__law_draw, .func (PySem.W.fnOf "_law_draw" "_law_draw" (defArgs s__law_draw) (defBody s__law_draw) (defScope s__law_draw) .none kV__law_draw doc__law_draw pm__law_draw an__law_draw cd__law_draw ct__law_draw), sl__law_draw⟩)
    (c__law_draw : PySem.W.codeIn K cd__law_draw "_law_draw" = true)
    (k__law_draw : PySem.W.keepIn K (.ref f__law_draw) = true)
    (a__law_letters : PySem.W.nsIn K mainGlobals "_law_letters" = some (some (.ref f__law_letters)))
    (l__law_letters : K.lookup f__law_letters = some ⟨oc__law_letters, od__law_letters, .func (PySem.W.fnOf "_law_letters" "_law_letters" (defArgs s__law_letters) (defBody s__law_letters) (defScope s__law_letters) .none kV__law_letters doc__law_letters pm__law_letters an__law_letters cd__law_letters ct__law_letters), sl__law_letters⟩)
    (c__law_letters : PySem.W.codeIn K cd__law_letters "_law_letters" = true)
    (k__law_letters : PySem.W.keepIn K (.ref f__law_letters) = true)
    (a__law_marks : PySem.W.nsIn K mainGlobals "_law_marks" = some (some (.ref f__law_marks)))
    (l__law_marks : K.lookup f__law_marks = some ⟨oc__law_marks, od__law_marks, .func (PySem.W.fnOf "_law_marks" "_law_marks" (defArgs s__law_marks) (defBody s__law_marks) (defScope s__law_marks) .none kV__law_marks doc__law_marks pm__law_marks an__law_marks cd__law_marks ct__law_marks), sl__law_marks⟩)
    (c__law_marks : PySem.W.codeIn K cd__law_marks "_law_marks" = true)
    (k__law_marks : PySem.W.keepIn K (.ref f__law_marks) = true)
    (a__law_sign : PySem.W.nsIn K mainGlobals "_law_sign" = some (some (.ref f__law_sign)))
    (l__law_sign : K.lookup f__law_sign = some ⟨oc__law_sign, od__law_sign, .func (PySem.W.fnOf "_law_sign" "_law_sign" (defArgs s__law_sign) (defBody s__law_sign) (defScope s__law_sign) .none kV__law_sign doc__law_sign pm__law_sign an__law_sign cd__law_sign ct__law_sign), sl__law_sign⟩)
    (c__law_sign : PySem.W.codeIn K cd__law_sign "_law_sign" = true)
    (k__law_sign : PySem.W.keepIn K (.ref f__law_sign) = true)
    (a__law_rows : PySem.W.nsIn K mainGlobals "_law_rows" = some (some (.ref f__law_rows)))
    (l__law_rows : K.lookup f__law_rows = some ⟨oc__law_rows, od__law_rows, .func (PySem.W.fnOf "_law_rows" "_law_rows" (defArgs s__law_rows) (defBody s__law_rows) (defScope s__law_rows) .none kV__law_rows doc__law_rows pm__law_rows an__law_rows cd__law_rows ct__law_rows), sl__law_rows⟩)
    (c__law_rows : PySem.W.codeIn K cd__law_rows "_law_rows" = true)
    (k__law_rows : PySem.W.keepIn K (.ref f__law_rows) = true)
    (a__law_is_near : PySem.W.nsIn K mainGlobals "_law_is_near" = some (some (.ref f__law_is_near)))
    (l__law_is_near : K.lookup f__law_is_near = some ⟨oc__law_is_near, od__law_is_near, .func (PySem.W.fnOf "_law_is_near" "_law_is_near" (defArgs s__law_is_near) (defBody s__law_is_near) (defScope s__law_is_near) .none kV__law_is_near doc__law_is_near pm__law_is_near an__law_is_near cd__law_is_near ct__law_is_near), sl__law_is_near⟩)
    (c__law_is_near : PySem.W.codeIn K cd__law_is_near "_law_is_near" = true)
    (k__law_is_near : PySem.W.keepIn K (.ref f__law_is_near) = true)
    (a__law_starts : PySem.W.nsIn K mainGlobals "_law_starts" = some (some (.ref f__law_starts)))
    (l__law_starts : K.lookup f__law_starts = some ⟨oc__law_starts, od__law_starts, .func (PySem.W.fnOf "_law_starts" "_law_starts" (defArgs s__law_starts) (defBody s__law_starts) (defScope s__law_starts) .none kV__law_starts doc__law_starts pm__law_starts an__law_starts cd__law_starts ct__law_starts), sl__law_starts⟩)
    (c__law_starts : PySem.W.codeIn K cd__law_starts "_law_starts" = true)
    (k__law_starts : PySem.W.keepIn K (.ref f__law_starts) = true)
    (a__law_straight : PySem.W.nsIn K mainGlobals "_law_straight" = some (some (.ref f__law_straight)))
    (l__law_straight : K.lookup f__law_straight = some ⟨oc__law_straight, od__law_straight, .func (PySem.W.fnOf "_law_straight" "_law_straight" (defArgs s__law_straight) (defBody s__law_straight) (defScope s__law_straight) .none kV__law_straight doc__law_straight pm__law_straight an__law_straight cd__law_straight ct__law_straight), sl__law_straight⟩)
    (c__law_straight : PySem.W.codeIn K cd__law_straight "_law_straight" = true)
    (k__law_straight : PySem.W.keepIn K (.ref f__law_straight) = true)
    (a__law_grid : PySem.W.nsIn K mainGlobals "_law_grid" = some (some (.ref f__law_grid)))
    (l__law_grid : K.lookup f__law_grid = some ⟨oc__law_grid, od__law_grid, .func (PySem.W.fnOf "_law_grid" "_law_grid" (defArgs s__law_grid) (defBody s__law_grid) (defScope s__law_grid) .none kV__law_grid doc__law_grid pm__law_grid an__law_grid cd__law_grid ct__law_grid), sl__law_grid⟩)
    (c__law_grid : PySem.W.codeIn K cd__law_grid "_law_grid" = true)
    (k__law_grid : PySem.W.keepIn K (.ref f__law_grid) = true)
    (a__law_run : PySem.W.nsIn K mainGlobals "_law_run" = some (some (.ref f__law_run)))
    (l__law_run : K.lookup f__law_run = some ⟨oc__law_run, od__law_run, .func (PySem.W.fnOf "_law_run" "_law_run" (defArgs s__law_run) (defBody s__law_run) (defScope s__law_run) .none kV__law_run doc__law_run pm__law_run an__law_run cd__law_run ct__law_run), sl__law_run⟩)
    (c__law_run : PySem.W.codeIn K cd__law_run "_law_run" = true)
    (k__law_run : PySem.W.keepIn K (.ref f__law_run) = true)
    (a__law_words : PySem.W.nsIn K mainGlobals "_law_words" = some (some (.ref f__law_words)))
    (l__law_words : K.lookup f__law_words = some ⟨oc__law_words, od__law_words, .func (PySem.W.fnOf "_law_words" "_law_words" (defArgs s__law_words) (defBody s__law_words) (defScope s__law_words) .none kV__law_words doc__law_words pm__law_words an__law_words cd__law_words ct__law_words), sl__law_words⟩)
    (c__law_words : PySem.W.codeIn K cd__law_words "_law_words" = true)
    (k__law_words : PySem.W.keepIn K (.ref f__law_words) = true)
    (a_Board_laid : PySem.W.findIn K (.ref C_Board) "laid" = some (some (.ref f_Board_laid)))
    (i_Board_laid : PySem.W.isFn K (.ref f_Board_laid) = true)
    (l_Board_laid : K.lookup f_Board_laid = some ⟨oc_Board_laid, od_Board_laid, .func (PySem.W.fnOf "laid" "Board.laid" (defArgs s_Board_laid) (defBody s_Board_laid) (defScope s_Board_laid) .none kV_Board_laid doc_Board_laid pm_Board_laid an_Board_laid cd_Board_laid ct_Board_laid), sl_Board_laid⟩)
    (c_Board_laid : PySem.W.codeIn K cd_Board_laid "Board.laid" = true)
    (k_Board_laid : PySem.W.keepIn K (.ref f_Board_laid) = true)
    (a_Board_at : PySem.W.findIn K (.ref C_Board) "at" = some (some (.ref f_Board_at)))
    (i_Board_at : PySem.W.isFn K (.ref f_Board_at) = true)
    (l_Board_at : K.lookup f_Board_at = some ⟨oc_Board_at, od_Board_at, .func (PySem.W.fnOf "at" "Board.at" (defArgs s_Board_at) (defBody s_Board_at) (defScope s_Board_at) .none kV_Board_at doc_Board_at pm_Board_at an_Board_at cd_Board_at ct_Board_at), sl_Board_at⟩)
    (c_Board_at : PySem.W.codeIn K cd_Board_at "Board.at" = true)
    (k_Board_at : PySem.W.keepIn K (.ref f_Board_at) = true)
    (a_Board_run : PySem.W.findIn K (.ref C_Board) "run" = some (some (.ref f_Board_run)))
    (i_Board_run : PySem.W.isFn K (.ref f_Board_run) = true)
    (l_Board_run : K.lookup f_Board_run = some ⟨oc_Board_run, od_Board_run, .func (PySem.W.fnOf "run" "Board.run" (defArgs s_Board_run) (defBody s_Board_run) (defScope s_Board_run) .none kV_Board_run doc_Board_run pm_Board_run an_Board_run cd_Board_run ct_Board_run), sl_Board_run⟩)
    (c_Board_run : PySem.W.codeIn K cd_Board_run "Board.run" = true)
    (k_Board_run : PySem.W.keepIn K (.ref f_Board_run) = true)
    (a_way_of : PySem.W.nsIn K mainGlobals "way_of" = some (some (.ref f_way_of)))
    (l_way_of : K.lookup f_way_of = some ⟨oc_way_of, od_way_of, .func (PySem.W.fnOf "way_of" "way_of" (defArgs s_way_of) (defBody s_way_of) (defScope s_way_of) .none kV_way_of doc_way_of pm_way_of an_way_of cd_way_of ct_way_of), sl_way_of⟩)
    (c_way_of : PySem.W.codeIn K cd_way_of "way_of" = true)
    (k_way_of : PySem.W.keepIn K (.ref f_way_of) = true)
    (a_formed : PySem.W.nsIn K mainGlobals "formed" = some (some (.ref f_formed)))
    (l_formed : K.lookup f_formed = some ⟨oc_formed, od_formed, .func (PySem.W.fnOf "formed" "formed" (defArgs s_formed) (defBody s_formed) (defScope s_formed) .none kV_formed doc_formed pm_formed an_formed cd_formed ct_formed), sl_formed⟩)
    (c_formed : PySem.W.codeIn K cd_formed "formed" = true)
    (k_formed : PySem.W.keepIn K (.ref f_formed) = true)
    (a_law : PySem.W.nsIn K mainGlobals "law" = some (some (.ref f_law)))
    (l_law : K.lookup f_law = some ⟨oc_law, od_law, .func (PySem.W.fnOf "law" "law" (defArgs s_law) (defBody s_law) (defScope s_law) .none kV_law doc_law pm_law an_law cd_law ct_law), sl_law⟩)
    (c_law : PySem.W.codeIn K cd_law "law" = true)
    (k_law : PySem.W.keepIn K (.ref f_law) = true)
    : ∃ (fa : Addr) (fd : FuncData) (y : Str), mg "law" = some (.ref fa) ∧ (∀ (s : Shared) (u : Value), BindsTo s fd ⟨[u], []⟩ [(y, u)]) ∧ y = "_law_script" ∧ ∀ base : Heap, K.In base → base.Ns mainGlobals mg → FnOk P w K mg base CX0 13 fa fd [y] (spG0 ⟨K, mg, nm⟩ 1 F_law) :=
  ok_all (⟨PySem.W.mg_none_of X G z_all, PySem.W.mg_none_of X G z_bool, PySem.W.mg_none_of X G z_int, PySem.W.mg_none_of X G z_isinstance, PySem.W.mg_none_of X G z_len, PySem.W.mg_none_of X G z_list, PySem.W.mg_none_of X G z_range, PySem.W.mg_none_of X G z_str, PySem.W.mg_none_of X G z_tuple, PySem.W.mg_none_of X G z_zip, PySem.W.mg_of X G z_FREE, PySem.W.mg_of X G z_GREAT, PySem.W.mg_of X G z_LETTERS, PySem.W.mg_of X G z_MARKS, PySem.W.mg_of X G z_MOST_CELLS, ⟨PySem.W.mg_of X G aC_Board, ⟨pg_Board, hd_Board, po_Board, sa_Board⟩, (nf_Board n_Board_rows n_Board_marks n_Board_begin), by decide +kernel, by decide +kernel⟩⟩ : Txt T_FREE T_GREAT T_LETTERS T_MARKS T_MOST_CELLS K mg C_Board) (defSrc_mk X G a_are_rows l_are_rows c_are_rows k_are_rows) (defSrc_mk X G a_is_whole l_is_whole c_is_whole k_is_whole) (defSrc_mk X G a_is_cell l_is_cell c_is_cell k_is_cell) (defSrc_mk X G a_is_sign l_is_sign c_is_sign k_is_sign) (initSrc_mk a_Board___init__ i_Board___init__ l_Board___init__ c_Board___init__ k_Board___init__ mk_Board kc_Board) (defSrc_mk X G a__law_alike l__law_alike c__law_alike k__law_alike) (defSrc_mk X G a__law_cell_at l__law_cell_at c__law_cell_at k__law_cell_at) (defSrc_mk X G a__law_draw l__law_draw c__law_draw k__law_draw) (defSrc_mk X G a__law_letters l__law_letters c__law_letters k__law_letters) (defSrc_mk X G a__law_marks l__law_marks c__law_marks k__law_marks) (defSrc_mk X G a__law_sign l__law_sign c__law_sign k__law_sign) (defSrc_mk X G a__law_rows l__law_rows c__law_rows k__law_rows) (defSrc_mk X G a__law_is_near l__law_is_near c__law_is_near k__law_is_near) (defSrc_mk X G a__law_starts l__law_starts c__law_starts k__law_starts) (defSrc_mk X G a__law_straight l__law_straight c__law_straight k__law_straight) (defSrc_mk X G a__law_grid l__law_grid c__law_grid k__law_grid) (defSrc_mk X G a__law_run l__law_run c__law_run k__law_run) (defSrc_mk X G a__law_words l__law_words c__law_words k__law_words) (methSrc_mk a_Board_laid i_Board_laid l_Board_laid c_Board_laid k_Board_laid) (methSrc_mk a_Board_at i_Board_at l_Board_at c_Board_at k_Board_at) (methSrc_mk a_Board_run i_Board_run l_Board_run c_Board_run k_Board_run) (defSrc_mk X G a_way_of l_way_of c_way_of k_way_of) (defSrc_mk X G a_formed l_formed c_formed k_formed) (defSrc_mk X G a_law l_law c_law k_law)
end T20

namespace T20
open PySem L2 Lr
abbrev Ty_Board := ((List (List Nat)) × (List (List Nat)) × (Int × Int))
def kf_Board : Ty_Board → List D := fun o => [(kTp D.str) o.1, (kTp D.str) o.2.1, (kT2 D.int D.int) o.2.2]
instance : KnL kf_Board (.m (.s .o) (.m (.s .o) (.m (.s (.m .o .o)) .o))) := (knl_cons (k := (kTp D.str)) (fun o : Ty_Board => o.1) (knl_cons (k := (kTp D.str)) (fun o : Ty_Board => o.2.1) (knl_cons (k := (kT2 D.int D.int)) (fun o : Ty_Board => o.2.2) knl_nil)))
noncomputable def t_are_rows (a_thing : (List (List Nat))) : R Bool := R.fin (N := Unit) (L := Unit) (ρ := Bool)
    (if ((!true) || (!((decide ((1 : Int) ≤ ((a_thing.length : Nat) : Int))) && (decide (((a_thing.length : Nat) : Int) ≤ (9 : Int)))))) then (R.ok (.rt false))
    else (R.seq (ρ := Bool) (forR (ρ := Bool) a_thing () fun (l2 : (Unit)) (row_3 : (List Nat)) =>
    (R.bind (if (!true) then R.ok true else (if (!((decide ((1 : Int) ≤ ((row_3.length : Nat) : Int))) && (decide (((row_3.length : Nat) : Int) ≤ (9 : Int))))) then R.ok true else (R.bind (R.bind (atR a_thing (0 : Int)) fun x4 => R.ok ((x4.length : Nat) : Int)) fun x6 => R.ok (!decide (((row_3.length : Nat) : Int) = x6))))) fun x8 => if x8 then (R.ok (.rt false))
    else (R.ok (.nx ())))) fun l9 =>
    (R.ok (.rt true))))
theorem tf_are_rows : TF true false (fun a : ((List (List Nat)) × Unit) => [(kTp D.str) a.1]) D.bl F_are_rows (fun a => t_are_rows a.1) := by
  unfold F_are_rows m_are_rows m_are_rows_b0
  refine tf_mk4 (n := 2) (fs := [fun a : ((List (List Nat)) × Unit) => (kTp D.str) a.1]) (r := 1) (Qn := fun _ (_ : Unit) _ _ => True) (Ql := fun _ (_ : Unit) _ _ => True) (Qx := fun _ _ _ => True) ?hk ?h
  case hk => exact fun _ => rfl
  case h => exact ⟨_, (tb_ifR0 (tt_orP (fun s : ((List (List Nat)) × Unit) => (!true)) (fun s : ((List (List Nat)) × Unit) => (!((decide ((1 : Int) ≤ ((s.1.length : Nat) : Int))) && (decide (((s.1.length : Nat) : Int) ≤ (9 : Int)))))) (tt_not (tt_val (k := D.bl) (td_isi true (td_var (k := (kTp D.str)) (f := fun s : ((List (List Nat)) × Unit) => s.1) 0 rfl) (fun _ _ => isi_tuple_tup)))) (tt_not (tt_val (k := D.bl) (td_chP (op := fun a b => (decide (a ≤ b))) (op2 := fun a b => (decide (a ≤ b))) (fun s : ((List (List Nat)) × Unit) => (1 : Int)) (fun s : ((List (List Nat)) × Unit) => ((s.1.length : Nat) : Int)) (fun s : ((List (List Nat)) × Unit) => (9 : Int)) (te_td (td_k (k := D.int) (1 : Int))) (te_td (td_fn (ta_cons (te_td (td_var (k := (kTp D.str)) (f := fun s : ((List (List Nat)) × Unit) => s.1) 0 rfl)) ta_nil) (o_lenT (k := D.str)))) (te_td (td_k (k := D.int) (9 : Int))) (o_le) (o_le))))) nn_ret
    (tb_retD (td_k (k := D.bl) false) qr_f (fun _ _ _ _ _ => trivial))
    (tb_for (L' := (Unit)) (δ := [.val (fun t : (((List (List Nat)) × Unit) × (Unit)) => (kTp D.str) t.1.1), .un]) (kx := D.str) (ws := [(1, fun v : (List Nat) => D.str v)]) (fun s : ((List (List Nat)) × Unit) => ()) (ti_tup (td_var (k := (kTp D.str)) (f := fun s : ((List (List Nat)) × Unit) => s.1) 0 rfl)) (fun _ _ => rfl) (by exact ⟨(fun _ => rfl), ⟨trivial, trivial⟩⟩)
    (tb_if (tt_or (tt_not (tt_val (k := D.bl) (td_isi true (td_var (k := D.str) (f := fun s : ((((List (List Nat)) × Unit) × (Unit)) × (List Nat)) => s.2) 1 rfl) (fun _ _ => isi_str_str)))) (tt_or (tt_not (tt_val (k := D.bl) (td_chP (op := fun a b => (decide (a ≤ b))) (op2 := fun a b => (decide (a ≤ b))) (fun s : ((((List (List Nat)) × Unit) × (Unit)) × (List Nat)) => (1 : Int)) (fun s : ((((List (List Nat)) × Unit) × (Unit)) × (List Nat)) => ((s.2.length : Nat) : Int)) (fun s : ((((List (List Nat)) × Unit) × (Unit)) × (List Nat)) => (9 : Int)) (te_td (td_k (k := D.int) (1 : Int))) (te_td (td_fn (ta_cons (te_td (td_var (k := D.str) (f := fun s : ((((List (List Nat)) × Unit) × (Unit)) × (List Nat)) => s.2) 1 rfl)) ta_nil) (o_lenS))) (te_td (td_k (k := D.int) (9 : Int))) (o_le) (o_le)))) (tt_val (k := D.bl) (td_bin (te_td (td_fn (ta_cons (te_td (td_var (k := D.str) (f := fun s : ((((List (List Nat)) × Unit) × (Unit)) × (List Nat)) => s.2) 1 rfl)) ta_nil) (o_lenS))) (te_td (td_fn (ta_cons (te_td (td_bin (te_td (td_var (k := (kTp D.str)) (f := fun s : ((((List (List Nat)) × Unit) × (Unit)) × (List Nat)) => s.1.1.1) 0 rfl)) (te_td (td_k (k := D.int) (0 : Int))) o_ixT)) ta_nil) (o_lenS))) (o_ne (k := D.int))))))
    (tb_retD (td_k (k := D.bl) false) qr_f (fun _ _ _ _ _ => trivial))
    (tb_end (fun s : ((((List (List Nat)) × Unit) × (Unit)) × (List Nat)) => ()) (fun s e μ E => Enc.wk (p := fun s : ((((List (List Nat)) × Unit) × (Unit)) × (List Nat)) => (s.1.1, ())) (by exact ⟨(fun _ => rfl), ⟨trivial, trivial⟩⟩) E)) (fun _ _ _ _ _ => trivial))
    (tb_retD (td_k (k := D.bl) true) qr_f (fun _ _ _ _ _ => trivial)) (fun _ _ _ _ _ => trivial)) (fun _ _ _ _ _ => trivial)), fun a => by simp only [t_are_rows, R.bind_ok]⟩
noncomputable def t_is_whole (a_thing : Int) : R Bool := R.fin (N := Unit) (L := Unit) (ρ := Bool)
    (R.ok (.rt (true && (!false))))
theorem tf_is_whole : TF true false (fun a : (Int × Unit) => [D.int a.1]) D.bl F_is_whole (fun a => t_is_whole a.1) := by
  unfold F_is_whole m_is_whole 
  refine tf_mk4 (n := 1) (fs := [fun a : (Int × Unit) => D.int a.1]) (r := 0) (Qn := fun _ (_ : Unit) _ _ => True) (Ql := fun _ (_ : Unit) _ _ => True) (Qx := fun _ _ _ => True) ?hk ?h
  case hk => exact fun _ => rfl
  case h => exact ⟨_, (tb_retD (td_andP (fun s : (Int × Unit) => true) (fun s : (Int × Unit) => (!false)) (td_isi true (td_var (k := D.int) (f := fun s : (Int × Unit) => s.1) 0 rfl) (fun _ _ => isi_int_int)) (td_not (td_isi false (td_var (k := D.int) (f := fun s : (Int × Unit) => s.1) 0 rfl) (fun _ _ => isi_bool_int)))) qr_f (fun _ _ _ _ _ => trivial)), fun a => by simp only [t_is_whole, R.bind_ok]⟩
noncomputable def t_is_cell (a_rows : (List (List Nat))) (a_thing : (Int × Int)) : R Bool := R.fin (N := Unit) (L := Unit) (ρ := Bool)
    (R.bind (if (!true) then R.ok true else (if (!decide ((2 : Int) = (2 : Int))) then R.ok true else (R.bind (R.bind (t_is_whole a_thing.1) fun x10 => R.ok (!x10)) fun x14 => (if x14 then R.ok true else (R.bind (t_is_whole a_thing.2) fun x12 => R.ok (!x12)))))) fun x21 => if x21 then (R.ok (.rt false))
    else (R.bind (if ((decide ((0 : Int) ≤ a_thing.1)) && (decide (a_thing.1 < ((a_rows.length : Nat) : Int)))) then (if (decide ((0 : Int) ≤ a_thing.2)) then (R.bind (R.bind (atR a_rows (0 : Int)) fun x16 => R.ok ((x16.length : Nat) : Int)) fun x18 => R.ok (decide (a_thing.2 < x18))) else R.ok false) else R.ok false) fun x20 => R.ok (.rt x20)))
theorem tf_is_cell : TF true false (fun a : ((List (List Nat)) × ((Int × Int) × Unit)) => [(kTp D.str) a.1, (kT2 D.int D.int) a.2.1]) D.bl F_is_cell (fun a => t_is_cell a.1 a.2.1) := by
  unfold F_is_cell m_is_cell 
  refine tf_mk4 (n := 2) (fs := [fun a : ((List (List Nat)) × ((Int × Int) × Unit)) => (kTp D.str) a.1, fun a : ((List (List Nat)) × ((Int × Int) × Unit)) => (kT2 D.int D.int) a.2.1]) (r := 0) (Qn := fun _ (_ : Unit) _ _ => True) (Ql := fun _ (_ : Unit) _ _ => True) (Qx := fun _ _ _ => True) ?hk ?h
  case hk => exact fun _ => rfl
  case h => exact ⟨_, (tb_ifR0 (tt_or (tt_not (tt_val (k := D.bl) (td_isi true (td_var (k := (kT2 D.int D.int)) (f := fun s : ((List (List Nat)) × ((Int × Int) × Unit)) => s.2.1) 1 rfl) (fun _ _ => isi_tuple_tup)))) (tt_or (tt_val (k := D.bl) (td_bin (te_td (td_fn (ta_cons (te_td (td_var (k := (kT2 D.int D.int)) (f := fun s : ((List (List Nat)) × ((Int × Int) × Unit)) => s.2.1) 1 rfl)) ta_nil) (o_lenK (k := (kT2 D.int D.int)) 2 (fun _ => ⟨_, rfl, rfl⟩)))) (te_td (td_k (k := D.int) (2 : Int))) (o_ne (k := D.int)))) (tt_or (tt_not (tt_val (k := D.bl) (td_call (tad_cons (td_prj (k := (kT2 D.int D.int)) (l := D.int) (i := 0) (fun a : (Int × Int) => a.1) (td_var (k := (kT2 D.int D.int)) (f := fun s : ((List (List Nat)) × ((Int × Int) × Unit)) => s.2.1) 1 rfl)) tad_nil) tf_is_whole))) (tt_not (tt_val (k := D.bl) (td_call (tad_cons (td_prj (k := (kT2 D.int D.int)) (l := D.int) (i := 1) (fun a : (Int × Int) => a.2) (td_var (k := (kT2 D.int D.int)) (f := fun s : ((List (List Nat)) × ((Int × Int) × Unit)) => s.2.1) 1 rfl)) tad_nil) tf_is_whole)))))) nn_ret
    (tb_retD (td_k (k := D.bl) false) qr_f (fun _ _ _ _ _ => trivial))
    (tb_retD (td_and (td_chP (op := fun a b => (decide (a ≤ b))) (op2 := fun a b => (decide (a < b))) (fun s : ((List (List Nat)) × ((Int × Int) × Unit)) => (0 : Int)) (fun s : ((List (List Nat)) × ((Int × Int) × Unit)) => s.2.1.1) (fun s : ((List (List Nat)) × ((Int × Int) × Unit)) => ((s.1.length : Nat) : Int)) (te_td (td_k (k := D.int) (0 : Int))) (te_td (td_prj (k := (kT2 D.int D.int)) (l := D.int) (i := 0) (fun a : (Int × Int) => a.1) (td_var (k := (kT2 D.int D.int)) (f := fun s : ((List (List Nat)) × ((Int × Int) × Unit)) => s.2.1) 1 rfl))) (te_td (td_fn (ta_cons (te_td (td_var (k := (kTp D.str)) (f := fun s : ((List (List Nat)) × ((Int × Int) × Unit)) => s.1) 0 rfl)) ta_nil) (o_lenT (k := D.str)))) (o_le) (o_lt)) (td_ch (te_td (td_k (k := D.int) (0 : Int))) (te_td (td_prj (k := (kT2 D.int D.int)) (l := D.int) (i := 1) (fun a : (Int × Int) => a.2) (td_var (k := (kT2 D.int D.int)) (f := fun s : ((List (List Nat)) × ((Int × Int) × Unit)) => s.2.1) 1 rfl))) (te_td (td_fn (ta_cons (te_td (td_bin (te_td (td_var (k := (kTp D.str)) (f := fun s : ((List (List Nat)) × ((Int × Int) × Unit)) => s.1) 0 rfl)) (te_td (td_k (k := D.int) (0 : Int))) o_ixT)) ta_nil) (o_lenS))) (o_le) (o_lt))) qr_f (fun _ _ _ _ _ => trivial)) (fun _ _ _ _ _ => trivial)), fun a => by simp only [t_is_cell, R.bind_ok]⟩
noncomputable def t_is_sign (a_thing : (List Nat)) : R Bool := R.fin (N := Unit) (L := Unit) (ρ := Bool)
    (R.bind (if true then (if (decide (((a_thing.length : Nat) : Int) = (1 : Int))) then (R.bind (addR (lowL : List Nat) (upL : List Nat)) fun x22 => R.ok (inS a_thing x22)) else R.ok false) else R.ok false) fun x24 => R.ok (.rt x24))
theorem tf_is_sign : TF true false (fun a : ((List Nat) × Unit) => [D.str a.1]) D.bl F_is_sign (fun a => t_is_sign a.1) := by
  unfold F_is_sign m_is_sign 
  refine tf_mk4 (n := 1) (fs := [fun a : ((List Nat) × Unit) => D.str a.1]) (r := 0) (Qn := fun _ (_ : Unit) _ _ => True) (Ql := fun _ (_ : Unit) _ _ => True) (Qx := fun _ _ _ => True) ?hk ?h
  case hk => exact fun _ => rfl
  case h => exact ⟨_, (tb_retD (td_and (td_isi true (td_var (k := D.str) (f := fun s : ((List Nat) × Unit) => s.1) 0 rfl) (fun _ _ => isi_str_str)) (td_and (td_bin (te_td (td_fn (ta_cons (te_td (td_var (k := D.str) (f := fun s : ((List Nat) × Unit) => s.1) 0 rfl)) ta_nil) (o_lenS))) (te_td (td_k (k := D.int) (1 : Int))) (o_eq (k := D.int))) (td_bin (te_td (td_var (k := D.str) (f := fun s : ((List Nat) × Unit) => s.1) 0 rfl)) (te_td (td_bin (te_td (td_k (k := D.str) (lowL : List Nat))) (te_td (td_k (k := D.str) (upL : List Nat))) o_addS)) (o_inS)))) qr_f (fun _ _ _ _ _ => trivial)), fun a => by simp only [t_is_sign, R.bind_ok]⟩
noncomputable def t_Board (a_rows : (List (List Nat))) (a_marks : (List (List Nat))) (a_begin : (Int × Int)) : R Ty_Board := R.finI (N := Ty_Board) (L := Unit) (ρ := Unit)
    (R.bind (R.bind (R.bind (t_are_rows a_rows) fun x25 => R.ok (!x25)) fun x29 => (if x29 then R.ok true else (R.bind (t_are_rows a_marks) fun x27 => R.ok (!x27)))) fun x71 => if x71 then R.no
    else (R.bind (if (!decide (((a_rows.length : Nat) : Int) = ((a_marks.length : Nat) : Int))) then R.ok true else (R.bind (R.bind (R.bind (atR a_rows (0 : Int)) fun x31 => R.ok ((x31.length : Nat) : Int)) fun x35 => (R.bind (R.bind (atR a_marks (0 : Int)) fun x33 => R.ok ((x33.length : Nat) : Int)) fun x36 => R.ok (!decide (x35 = x36)))) fun x41 => (if x41 then R.ok true else (R.bind (t_is_cell a_rows a_begin) fun x39 => R.ok (!x39))))) fun x70 => if x70 then R.no
    else (R.bind (R.bind (R.bind (R.bind (R.bind (joinR ([] : List Nat) a_rows) fun x43 => R.ok (sgs x43)) fun x46 => (R.ne (lcR x46 (fun v45 => R.ok true) fun v45 => (if (decide (v45 = ([46] : List Nat))) then R.ok true else (t_is_sign v45))))) fun x50 => R.ok (x50.all id)) fun x52 => R.ok (!x52)) fun x69 => if x69 then R.no
    else (R.bind (R.bind (R.bind (R.bind (R.bind (joinR ([] : List Nat) a_marks) fun x54 => R.ok (sgs x54)) fun x57 => (R.ne (lcR x57 (fun v56 => R.ok true) fun v56 => R.ok (inS v56 ([46, 50, 51, 52, 98, 99, 100] : List Nat))))) fun x61 => R.ok (x61.all id)) fun x63 => R.ok (!x63)) fun x68 => if x68 then R.no
    else (R.bind (R.ok a_rows) fun rows_65 =>
    (R.bind (R.ok a_marks) fun marks_66 =>
    (R.bind (R.ok a_begin) fun begin_67 =>
    (R.ok (.nx (rows_65, marks_66, begin_67))))))))))
theorem tfi_Board : TFI 0 (fun a : ((List (List Nat)) × ((List (List Nat)) × ((Int × Int) × Unit))) => [(kTp D.str) a.1, (kTp D.str) a.2.1, (kT2 D.int D.int) a.2.2.1]) kf_Board F_Board___init__ (fun a => t_Board a.1 a.2.1 a.2.2.1) := by
  unfold F_Board___init__ m_Board___init__ m_Board___init___e1 m_Board___init___e0
  refine tfi_mk (n := 6) (fs := [fun a : ((List (List Nat)) × ((List (List Nat)) × ((Int × Int) × Unit))) => (kTp D.str) a.1, fun a : ((List (List Nat)) × ((List (List Nat)) × ((Int × Int) × Unit))) => (kTp D.str) a.2.1, fun a : ((List (List Nat)) × ((List (List Nat)) × ((Int × Int) × Unit))) => (kT2 D.int D.int) a.2.2.1]) (r' := 2) ?hk ?h
  case hk => exact fun _ => rfl
  case h => exact ⟨_, (tb_ifR0 (tt_or (tt_not (tt_val (k := D.bl) (td_call (tad_cons (td_var (k := (kTp D.str)) (f := fun s : ((List (List Nat)) × ((List (List Nat)) × ((Int × Int) × Unit))) => s.1) 1 rfl) tad_nil) tf_are_rows))) (tt_not (tt_val (k := D.bl) (td_call (tad_cons (td_var (k := (kTp D.str)) (f := fun s : ((List (List Nat)) × ((List (List Nat)) × ((Int × Int) × Unit))) => s.2.1) 2 rfl) tad_nil) tf_are_rows)))) nn_no
    tb_no
    (tb_ifR0 (tt_or (tt_val (k := D.bl) (td_bin (te_td (td_fn (ta_cons (te_td (td_var (k := (kTp D.str)) (f := fun s : ((List (List Nat)) × ((List (List Nat)) × ((Int × Int) × Unit))) => s.1) 1 rfl)) ta_nil) (o_lenT (k := D.str)))) (te_td (td_fn (ta_cons (te_td (td_var (k := (kTp D.str)) (f := fun s : ((List (List Nat)) × ((List (List Nat)) × ((Int × Int) × Unit))) => s.2.1) 2 rfl)) ta_nil) (o_lenT (k := D.str)))) (o_ne (k := D.int)))) (tt_or (tt_val (k := D.bl) (td_bin (te_td (td_fn (ta_cons (te_td (td_bin (te_td (td_var (k := (kTp D.str)) (f := fun s : ((List (List Nat)) × ((List (List Nat)) × ((Int × Int) × Unit))) => s.1) 1 rfl)) (te_td (td_k (k := D.int) (0 : Int))) o_ixT)) ta_nil) (o_lenS))) (te_td (td_fn (ta_cons (te_td (td_bin (te_td (td_var (k := (kTp D.str)) (f := fun s : ((List (List Nat)) × ((List (List Nat)) × ((Int × Int) × Unit))) => s.2.1) 2 rfl)) (te_td (td_k (k := D.int) (0 : Int))) o_ixT)) ta_nil) (o_lenS))) (o_ne (k := D.int)))) (tt_not (tt_val (k := D.bl) (td_call (tad_cons (td_var (k := (kTp D.str)) (f := fun s : ((List (List Nat)) × ((List (List Nat)) × ((Int × Int) × Unit))) => s.1) 1 rfl) (tad_cons (td_var (k := (kT2 D.int D.int)) (f := fun s : ((List (List Nat)) × ((List (List Nat)) × ((Int × Int) × Unit))) => s.2.2.1) 3 rfl) tad_nil)) tf_is_cell))))) nn_no
    tb_no
    (tb_ifR0 (tt_not (tt_val (k := D.bl) (td_fn (ta_cons (te_td (td_lc (x2 := false) (x3 := false) (ws := [(4, fun v : (List Nat) => D.str v)]) (kx := D.str) (ky := D.bl) (own := [4]) (tw_ti (ti_str (td_bm (te_td (td_k (k := D.str) ([] : List Nat))) (ta_cons (te_td (td_var (k := (kTp D.str)) (f := fun s : ((List (List Nat)) × ((List (List Nat)) × ((Int × Int) × Unit))) => s.1) 1 rfl)) ta_nil) ik_str (o_joinT)))) (fun _ _ => rfl) tt_true (td_or (td_bin (te_td (td_var (k := D.str) (f := fun s : (((List (List Nat)) × ((List (List Nat)) × ((Int × Int) × Unit))) × (List Nat)) => s.2) 4 rfl)) (te_td (td_k (k := D.str) ([46] : List Nat))) (o_eq (k := D.str))) (td_call (tad_cons (td_var (k := D.str) (f := fun s : (((List (List Nat)) × ((List (List Nat)) × ((Int × Int) × Unit))) × (List Nat)) => s.2) 4 rfl) tad_nil) tf_is_sign)))) ta_nil) (o_all)))) nn_no
    tb_no
    (tb_ifR0 (tt_not (tt_val (k := D.bl) (td_fn (ta_cons (te_td (td_lc (x2 := false) (x3 := false) (ws := [(5, fun v : (List Nat) => D.str v)]) (kx := D.str) (ky := D.bl) (own := [5]) (tw_ti (ti_str (td_bm (te_td (td_k (k := D.str) ([] : List Nat))) (ta_cons (te_td (td_var (k := (kTp D.str)) (f := fun s : ((List (List Nat)) × ((List (List Nat)) × ((Int × Int) × Unit))) => s.2.1) 2 rfl)) ta_nil) ik_str (o_joinT)))) (fun _ _ => rfl) tt_true (td_bin (te_td (td_var (k := D.str) (f := fun s : (((List (List Nat)) × ((List (List Nat)) × ((Int × Int) × Unit))) × (List Nat)) => s.2) 5 rfl)) (te_td (td_k (k := D.str) ([46, 50, 51, 52, 98, 99, 100] : List Nat))) (o_inS)))) ta_nil) (o_all)))) nn_no
    tb_no
    (tb_fld (c := 0) (i := 0) (n := 0) (fs := fun s : ((List (List Nat)) × ((List (List Nat)) × ((Int × Int) × Unit))) => []) rfl (fun _ => rfl) (td_var (k := (kTp D.str)) (f := fun s : ((List (List Nat)) × ((List (List Nat)) × ((Int × Int) × Unit))) => s.1) 1 rfl)
    (tb_fld (c := 0) (i := 1) (n := 0) (fs := fun s : (((List (List Nat)) × ((List (List Nat)) × ((Int × Int) × Unit))) × (List (List Nat))) => [(kTp D.str) s.2]) rfl (fun _ => rfl) (td_var (k := (kTp D.str)) (f := fun s : (((List (List Nat)) × ((List (List Nat)) × ((Int × Int) × Unit))) × (List (List Nat))) => s.1.2.1) 2 rfl)
    (tb_last (tb_fld (c := 0) (i := 2) (n := 0) (fs := fun s : ((((List (List Nat)) × ((List (List Nat)) × ((Int × Int) × Unit))) × (List (List Nat))) × (List (List Nat))) => [(kTp D.str) s.1.2, (kTp D.str) s.2]) rfl (fun _ => rfl) (td_var (k := (kT2 D.int D.int)) (f := fun s : ((((List (List Nat)) × ((List (List Nat)) × ((Int × Int) × Unit))) × (List (List Nat))) × (List (List Nat))) => s.1.1.2.2.1) 3 rfl)
    (tb_end (fun s : (((((List (List Nat)) × ((List (List Nat)) × ((Int × Int) × Unit))) × (List (List Nat))) × (List (List Nat))) × (Int × Int)) => (s.1.1.2, s.1.2, s.2)) (fun s e μ E => (E.celN (i := 0) rfl).2)) (fun _ _ _ _ _ => trivial))) (fun _ _ _ _ _ => trivial)) (fun _ _ _ _ _ => trivial)) (fun _ _ _ _ _ => trivial)) (fun _ _ _ _ _ => trivial)) (fun _ _ _ _ _ => trivial)) (fun _ _ _ _ _ => trivial)), fun a => by simp only [t_Board, R.bind_ok]⟩
noncomputable def t_Board_at (a_self : Ty_Board) (a_row : Int) (a_column : Int) : R (List Nat) := R.fin (N := Unit) (L := Unit) (ρ := (List Nat))
    (R.bind (if (!((decide ((0 : Int) ≤ a_row)) && (decide (a_row < ((a_self.1.length : Nat) : Int))))) then R.ok true else (R.bind (if (decide ((0 : Int) ≤ a_column)) then (R.bind (R.bind (atR a_self.1 (0 : Int)) fun x72 => R.ok ((x72.length : Nat) : Int)) fun x74 => R.ok (decide (a_column < x74))) else R.ok false) fun x76 => R.ok (!x76))) fun x81 => if x81 then (R.ok (.rt ([46] : List Nat)))
    else (R.bind (R.bind (atR a_self.1 a_row) fun x78 => (R.bind (atR x78 a_column) fun c => R.ok [c])) fun x80 => R.ok (.rt x80)))
theorem tf_Board_at : TF true false (fun a : (Ty_Board × (Int × (Int × Unit))) => [(kObj 0 kf_Board) a.1, D.int a.2.1, D.int a.2.2.1]) D.str F_Board_at (fun a => t_Board_at a.1 a.2.1 a.2.2.1) := by
  unfold F_Board_at m_Board_at 
  refine tf_mk4 (n := 3) (fs := [fun a : (Ty_Board × (Int × (Int × Unit))) => (kObj 0 kf_Board) a.1, fun a : (Ty_Board × (Int × (Int × Unit))) => D.int a.2.1, fun a : (Ty_Board × (Int × (Int × Unit))) => D.int a.2.2.1]) (r := 0) (Qn := fun _ (_ : Unit) _ _ => True) (Ql := fun _ (_ : Unit) _ _ => True) (Qx := fun _ _ _ => True) ?hk ?h
  case hk => exact fun _ => rfl
  case h => exact ⟨_, (tb_ifR0 (tt_or (tt_not (tt_val (k := D.bl) (td_chP (op := fun a b => (decide (a ≤ b))) (op2 := fun a b => (decide (a < b))) (fun s : (Ty_Board × (Int × (Int × Unit))) => (0 : Int)) (fun s : (Ty_Board × (Int × (Int × Unit))) => s.2.1) (fun s : (Ty_Board × (Int × (Int × Unit))) => ((s.1.1.length : Nat) : Int)) (te_td (td_k (k := D.int) (0 : Int))) (te_td (td_var (k := D.int) (f := fun s : (Ty_Board × (Int × (Int × Unit))) => s.2.1) 1 rfl)) (te_td (td_fn (ta_cons (te_td (td_fld (ko := kf_Board) (kf := (kTp D.str)) (fun o : Ty_Board => o.1) (td_var (k := (kObj 0 kf_Board)) (f := fun s : (Ty_Board × (Int × (Int × Unit))) => s.1) 0 rfl))) ta_nil) (o_lenT (k := D.str)))) (o_le) (o_lt)))) (tt_not (tt_val (k := D.bl) (td_ch (te_td (td_k (k := D.int) (0 : Int))) (te_td (td_var (k := D.int) (f := fun s : (Ty_Board × (Int × (Int × Unit))) => s.2.2.1) 2 rfl)) (te_td (td_fn (ta_cons (te_td (td_bin (te_td (td_fld (ko := kf_Board) (kf := (kTp D.str)) (fun o : Ty_Board => o.1) (td_var (k := (kObj 0 kf_Board)) (f := fun s : (Ty_Board × (Int × (Int × Unit))) => s.1) 0 rfl))) (te_td (td_k (k := D.int) (0 : Int))) o_ixT)) ta_nil) (o_lenS))) (o_le) (o_lt))))) nn_ret
    (tb_retD (td_k (k := D.str) ([46] : List Nat)) qr_f (fun _ _ _ _ _ => trivial))
    (tb_retD (td_bin (te_td (td_bin (te_td (td_fld (ko := kf_Board) (kf := (kTp D.str)) (fun o : Ty_Board => o.1) (td_var (k := (kObj 0 kf_Board)) (f := fun s : (Ty_Board × (Int × (Int × Unit))) => s.1) 0 rfl))) (te_td (td_var (k := D.int) (f := fun s : (Ty_Board × (Int × (Int × Unit))) => s.2.1) 1 rfl)) o_ixT)) (te_td (td_var (k := D.int) (f := fun s : (Ty_Board × (Int × (Int × Unit))) => s.2.2.1) 2 rfl)) o_ixS) qr_f (fun _ _ _ _ _ => trivial)) (fun _ _ _ _ _ => trivial)), fun a => by simp only [t_Board_at, R.bind_ok]⟩
noncomputable def t_Board_run (a_self : Ty_Board) (a_row : Int) (a_column : Int) (a_way : Int) : R (Int × Int × (List Nat)) := R.fin (N := Unit) (L := Unit) (ρ := (Int × Int × (List Nat)))
    (R.bind (R.ok a_way) fun down_82 =>
    (R.bind (R.ok ((1 : Int) - a_way)) fun across_83 =>
    (R.seq (ρ := (Int × Int × (List Nat))) (whR (ρ := (Int × Int × (List Nat))) (a_row, a_column) (fun (l85 : (Int × Int)) => (R.bind (t_Board_at a_self (l85.1 - down_82) (l85.2 - across_83)) fun x86 => R.ok (!decide (x86 = ([46] : List Nat))))) fun (l85 : (Int × Int)) =>
    (R.bind (R.ok (l85.1 - down_82)) fun row_88 =>
    (R.bind (R.ok (l85.2 - across_83)) fun column_89 =>
    (R.ok (.nx (row_88, column_89)))))) fun l90 =>
    (R.bind (R.ok ([] : List Nat)) fun signs_91 =>
    (R.seq (ρ := (Int × Int × (List Nat))) (whR (ρ := (Int × Int × (List Nat))) signs_91 (fun (signs_93 : ((List Nat))) => (R.bind (R.bind (R.bind (imulR down_82 ((signs_93.length : Nat) : Int)) fun x94 => R.ok (l90.1 + x94)) fun x98 => (R.bind (R.bind (imulR across_83 ((signs_93.length : Nat) : Int)) fun x96 => R.ok (l90.2 + x96)) fun x99 => (t_Board_at a_self x98 x99))) fun x102 => R.ok (!decide (x102 = ([46] : List Nat))))) fun (signs_93 : ((List Nat))) =>
    (R.bind ((R.bind (R.bind (R.bind (imulR down_82 ((signs_93.length : Nat) : Int)) fun x104 => R.ok (l90.1 + x104)) fun x108 => (R.bind (R.bind (imulR across_83 ((signs_93.length : Nat) : Int)) fun x106 => R.ok (l90.2 + x106)) fun x109 => (t_Board_at a_self x108 x109))) fun x113 => (addR signs_93 x113))) fun signs_112 =>
    (R.ok (.nx signs_112)))) fun l115 =>
    (R.ok (.rt (l90.1, l90.2, l115))))))))
theorem tf_Board_run : TF true false (fun a : (Ty_Board × (Int × (Int × (Int × Unit)))) => [(kObj 0 kf_Board) a.1, D.int a.2.1, D.int a.2.2.1, D.int a.2.2.2.1]) (kT3 D.int D.int D.str) F_Board_run (fun a => t_Board_run a.1 a.2.1 a.2.2.1 a.2.2.2.1) := by
  unfold F_Board_run m_Board_run m_Board_run_w1 m_Board_run_w0
  refine tf_mk4 (n := 7) (fs := [fun a : (Ty_Board × (Int × (Int × (Int × Unit)))) => (kObj 0 kf_Board) a.1, fun a : (Ty_Board × (Int × (Int × (Int × Unit)))) => D.int a.2.1, fun a : (Ty_Board × (Int × (Int × (Int × Unit)))) => D.int a.2.2.1, fun a : (Ty_Board × (Int × (Int × (Int × Unit)))) => D.int a.2.2.2.1]) (r := 3) (Qn := fun _ (_ : Unit) _ _ => True) (Ql := fun _ (_ : Unit) _ _ => True) (Qx := fun _ _ _ => True) ?hk ?h
  case hk => exact fun _ => rfl
  case h => exact ⟨_, (tb_set (k := D.int) 4 (td_var (k := D.int) (f := fun s : (Ty_Board × (Int × (Int × (Int × Unit)))) => s.2.2.2.1) 3 rfl)
    (tb_set (k := D.int) 5 (td_bin (te_td (td_k (k := D.int) (1 : Int))) (te_td (td_var (k := D.int) (f := fun s : ((Ty_Board × (Int × (Int × (Int × Unit)))) × Int) => s.1.2.2.2.1) 3 rfl)) o_sub)
    (tb_while (L' := (Int × Int)) (δ := [.val (fun t : ((((Ty_Board × (Int × (Int × (Int × Unit)))) × Int) × Int) × (Int × Int)) => (kObj 0 kf_Board) t.1.1.1.1), .val (fun t : ((((Ty_Board × (Int × (Int × (Int × Unit)))) × Int) × Int) × (Int × Int)) => D.int t.2.1), .val (fun t : ((((Ty_Board × (Int × (Int × (Int × Unit)))) × Int) × Int) × (Int × Int)) => D.int t.2.2), .val (fun t : ((((Ty_Board × (Int × (Int × (Int × Unit)))) × Int) × Int) × (Int × Int)) => D.int t.1.1.1.2.2.2.1), .val (fun t : ((((Ty_Board × (Int × (Int × (Int × Unit)))) × Int) × Int) × (Int × Int)) => D.int t.1.1.2), .val (fun t : ((((Ty_Board × (Int × (Int × (Int × Unit)))) × Int) × Int) × (Int × Int)) => D.int t.1.2), .un]) (fun s : (((Ty_Board × (Int × (Int × (Int × Unit)))) × Int) × Int) => (s.1.1.2.1, s.1.1.2.2.1)) (by exact ⟨(fun _ => rfl), ⟨(fun _ => rfl), ⟨(fun _ => rfl), ⟨(fun _ => rfl), ⟨(fun _ => rfl), ⟨(fun _ => rfl), ⟨trivial, trivial⟩⟩⟩⟩⟩⟩⟩) (tt_val (k := D.bl) (td_bin (te_td (td_meth (ko := kf_Board) (td_var (k := (kObj 0 kf_Board)) (f := fun s : ((((Ty_Board × (Int × (Int × (Int × Unit)))) × Int) × Int) × (Int × Int)) => s.1.1.1.1) 0 rfl) (tad_cons (td_bin (te_td (td_var (k := D.int) (f := fun s : ((((Ty_Board × (Int × (Int × (Int × Unit)))) × Int) × Int) × (Int × Int)) => s.2.1) 1 rfl)) (te_td (td_var (k := D.int) (f := fun s : ((((Ty_Board × (Int × (Int × (Int × Unit)))) × Int) × Int) × (Int × Int)) => s.1.1.2) 4 rfl)) o_sub) (tad_cons (td_bin (te_td (td_var (k := D.int) (f := fun s : ((((Ty_Board × (Int × (Int × (Int × Unit)))) × Int) × Int) × (Int × Int)) => s.2.2) 2 rfl)) (te_td (td_var (k := D.int) (f := fun s : ((((Ty_Board × (Int × (Int × (Int × Unit)))) × Int) × Int) × (Int × Int)) => s.1.2) 5 rfl)) o_sub) tad_nil)) tf_Board_at)) (te_td (td_k (k := D.str) ([46] : List Nat))) (o_ne (k := D.str))))
    (tb_aug (k := D.int) (f := fun s : ((((Ty_Board × (Int × (Int × (Int × Unit)))) × Int) × Int) × (Int × Int)) => s.2.1) 1 rfl (te_td (td_var (k := D.int) (f := fun s : ((((Ty_Board × (Int × (Int × (Int × Unit)))) × Int) × Int) × (Int × Int)) => s.1.1.2) 4 rfl)) o_isub
    (tb_last (tb_aug (k := D.int) (f := fun s : (((((Ty_Board × (Int × (Int × (Int × Unit)))) × Int) × Int) × (Int × Int)) × Int) => s.1.2.2) 2 rfl (te_td (td_var (k := D.int) (f := fun s : (((((Ty_Board × (Int × (Int × (Int × Unit)))) × Int) × Int) × (Int × Int)) × Int) => s.1.1.2) 5 rfl)) o_isub
    (tb_end (fun s : ((((((Ty_Board × (Int × (Int × (Int × Unit)))) × Int) × Int) × (Int × Int)) × Int) × Int) => (s.1.2, s.2)) (fun s e μ E => Enc.wk (p := fun s : ((((((Ty_Board × (Int × (Int × (Int × Unit)))) × Int) × Int) × (Int × Int)) × Int) × Int) => (s.1.1.1, (s.1.2, s.2))) (by exact ⟨(fun _ => rfl), ⟨(fun _ => rfl), ⟨(fun _ => rfl), ⟨(fun _ => rfl), ⟨(fun _ => rfl), ⟨(fun _ => rfl), ⟨trivial, trivial⟩⟩⟩⟩⟩⟩⟩) E)) (fun _ _ _ _ _ => trivial))) (fun _ _ _ _ _ => trivial))
    (tb_set (k := D.str) 6 (td_k (k := D.str) ([] : List Nat))
    (tb_while (L' := ((List Nat))) (δ := [.val (fun t : ((((((Ty_Board × (Int × (Int × (Int × Unit)))) × Int) × Int) × (Int × Int)) × (List Nat)) × ((List Nat))) => (kObj 0 kf_Board) t.1.1.1.1.1.1), .val (fun t : ((((((Ty_Board × (Int × (Int × (Int × Unit)))) × Int) × Int) × (Int × Int)) × (List Nat)) × ((List Nat))) => D.int t.1.1.2.1), .val (fun t : ((((((Ty_Board × (Int × (Int × (Int × Unit)))) × Int) × Int) × (Int × Int)) × (List Nat)) × ((List Nat))) => D.int t.1.1.2.2), .val (fun t : ((((((Ty_Board × (Int × (Int × (Int × Unit)))) × Int) × Int) × (Int × Int)) × (List Nat)) × ((List Nat))) => D.int t.1.1.1.1.1.2.2.2.1), .val (fun t : ((((((Ty_Board × (Int × (Int × (Int × Unit)))) × Int) × Int) × (Int × Int)) × (List Nat)) × ((List Nat))) => D.int t.1.1.1.1.2), .val (fun t : ((((((Ty_Board × (Int × (Int × (Int × Unit)))) × Int) × Int) × (Int × Int)) × (List Nat)) × ((List Nat))) => D.int t.1.1.1.2), .val (fun t : ((((((Ty_Board × (Int × (Int × (Int × Unit)))) × Int) × Int) × (Int × Int)) × (List Nat)) × ((List Nat))) => D.str t.2)]) (fun s : (((((Ty_Board × (Int × (Int × (Int × Unit)))) × Int) × Int) × (Int × Int)) × (List Nat)) => s.2) (by exact ⟨(fun _ => rfl), ⟨(fun _ => rfl), ⟨(fun _ => rfl), ⟨(fun _ => rfl), ⟨(fun _ => rfl), ⟨(fun _ => rfl), ⟨(fun _ => rfl), trivial⟩⟩⟩⟩⟩⟩⟩) (tt_val (k := D.bl) (td_bin (te_td (td_meth (ko := kf_Board) (td_var (k := (kObj 0 kf_Board)) (f := fun s : ((((((Ty_Board × (Int × (Int × (Int × Unit)))) × Int) × Int) × (Int × Int)) × (List Nat)) × ((List Nat))) => s.1.1.1.1.1.1) 0 rfl) (tad_cons (td_bin (te_td (td_var (k := D.int) (f := fun s : ((((((Ty_Board × (Int × (Int × (Int × Unit)))) × Int) × Int) × (Int × Int)) × (List Nat)) × ((List Nat))) => s.1.1.2.1) 1 rfl)) (te_td (td_bin (te_td (td_var (k := D.int) (f := fun s : ((((((Ty_Board × (Int × (Int × (Int × Unit)))) × Int) × Int) × (Int × Int)) × (List Nat)) × ((List Nat))) => s.1.1.1.1.2) 4 rfl)) (te_td (td_fn (ta_cons (te_td (td_var (k := D.str) (f := fun s : ((((((Ty_Board × (Int × (Int × (Int × Unit)))) × Int) × Int) × (Int × Int)) × (List Nat)) × ((List Nat))) => s.2) 6 rfl)) ta_nil) (o_lenS))) o_mul)) o_add) (tad_cons (td_bin (te_td (td_var (k := D.int) (f := fun s : ((((((Ty_Board × (Int × (Int × (Int × Unit)))) × Int) × Int) × (Int × Int)) × (List Nat)) × ((List Nat))) => s.1.1.2.2) 2 rfl)) (te_td (td_bin (te_td (td_var (k := D.int) (f := fun s : ((((((Ty_Board × (Int × (Int × (Int × Unit)))) × Int) × Int) × (Int × Int)) × (List Nat)) × ((List Nat))) => s.1.1.1.2) 5 rfl)) (te_td (td_fn (ta_cons (te_td (td_var (k := D.str) (f := fun s : ((((((Ty_Board × (Int × (Int × (Int × Unit)))) × Int) × Int) × (Int × Int)) × (List Nat)) × ((List Nat))) => s.2) 6 rfl)) ta_nil) (o_lenS))) o_mul)) o_add) tad_nil)) tf_Board_at)) (te_td (td_k (k := D.str) ([46] : List Nat))) (o_ne (k := D.str))))
    (tb_last (tb_aug (k := D.str) (f := fun s : ((((((Ty_Board × (Int × (Int × (Int × Unit)))) × Int) × Int) × (Int × Int)) × (List Nat)) × ((List Nat))) => s.2) 6 rfl (te_td (td_meth (ko := kf_Board) (td_var (k := (kObj 0 kf_Board)) (f := fun s : ((((((Ty_Board × (Int × (Int × (Int × Unit)))) × Int) × Int) × (Int × Int)) × (List Nat)) × ((List Nat))) => s.1.1.1.1.1.1) 0 rfl) (tad_cons (td_bin (te_td (td_var (k := D.int) (f := fun s : ((((((Ty_Board × (Int × (Int × (Int × Unit)))) × Int) × Int) × (Int × Int)) × (List Nat)) × ((List Nat))) => s.1.1.2.1) 1 rfl)) (te_td (td_bin (te_td (td_var (k := D.int) (f := fun s : ((((((Ty_Board × (Int × (Int × (Int × Unit)))) × Int) × Int) × (Int × Int)) × (List Nat)) × ((List Nat))) => s.1.1.1.1.2) 4 rfl)) (te_td (td_fn (ta_cons (te_td (td_var (k := D.str) (f := fun s : ((((((Ty_Board × (Int × (Int × (Int × Unit)))) × Int) × Int) × (Int × Int)) × (List Nat)) × ((List Nat))) => s.2) 6 rfl)) ta_nil) (o_lenS))) o_mul)) o_add) (tad_cons (td_bin (te_td (td_var (k := D.int) (f := fun s : ((((((Ty_Board × (Int × (Int × (Int × Unit)))) × Int) × Int) × (Int × Int)) × (List Nat)) × ((List Nat))) => s.1.1.2.2) 2 rfl)) (te_td (td_bin (te_td (td_var (k := D.int) (f := fun s : ((((((Ty_Board × (Int × (Int × (Int × Unit)))) × Int) × Int) × (Int × Int)) × (List Nat)) × ((List Nat))) => s.1.1.1.2) 5 rfl)) (te_td (td_fn (ta_cons (te_td (td_var (k := D.str) (f := fun s : ((((((Ty_Board × (Int × (Int × (Int × Unit)))) × Int) × Int) × (Int × Int)) × (List Nat)) × ((List Nat))) => s.2) 6 rfl)) ta_nil) (o_lenS))) o_mul)) o_add) tad_nil)) tf_Board_at)) o_iaddS
    (tb_end (fun s : (((((((Ty_Board × (Int × (Int × (Int × Unit)))) × Int) × Int) × (Int × Int)) × (List Nat)) × ((List Nat))) × (List Nat)) => s.2) (fun s e μ E => Enc.wk (p := fun s : (((((((Ty_Board × (Int × (Int × (Int × Unit)))) × Int) × Int) × (Int × Int)) × (List Nat)) × ((List Nat))) × (List Nat)) => (s.1.1, s.2)) (by exact ⟨(fun _ => rfl), ⟨(fun _ => rfl), ⟨(fun _ => rfl), ⟨(fun _ => rfl), ⟨(fun _ => rfl), ⟨(fun _ => rfl), ⟨(fun _ => rfl), trivial⟩⟩⟩⟩⟩⟩⟩) E)) (fun _ _ _ _ _ => trivial)))
    (tb_retD (td_tup (k := (kT3 D.int D.int D.str)) (fun a : (Int × (Int × ((List Nat) × Unit))) => (a.1, a.2.1, a.2.2.1)) (tad_cons (td_var (k := D.int) (f := fun s : ((((((Ty_Board × (Int × (Int × (Int × Unit)))) × Int) × Int) × (Int × Int)) × (List Nat)) × ((List Nat))) => s.1.1.2.1) 1 rfl) (tad_cons (td_var (k := D.int) (f := fun s : ((((((Ty_Board × (Int × (Int × (Int × Unit)))) × Int) × Int) × (Int × Int)) × (List Nat)) × ((List Nat))) => s.1.1.2.2) 2 rfl) (tad_cons (td_var (k := D.str) (f := fun s : ((((((Ty_Board × (Int × (Int × (Int × Unit)))) × Int) × Int) × (Int × Int)) × (List Nat)) × ((List Nat))) => s.2) 6 rfl) tad_nil)))) qr_f (fun _ _ _ _ _ => trivial)) (fun _ _ _ _ _ => trivial)) (fun _ _ _ _ _ => trivial)) (fun _ _ _ _ _ => trivial)) (fun _ _ _ _ _ => trivial)) (fun _ _ _ _ _ => trivial)), fun a => by simp only [t_Board_run, R.bind_ok]⟩
noncomputable def t__law_cell_at (a_script : (List Int)) (a_k : Int) : R Int := R.fin (N := Unit) (L := Unit) (ρ := Int)
    (if (decide (a_k < ((a_script.length : Nat) : Int))) then (R.bind (atR a_script a_k) fun x116 => R.ok (.rt x116))
    else (R.ok (.rt (0 : Int))))
theorem tf__law_cell_at : TF true false (fun a : ((List Int) × (Int × Unit)) => [kScr a.1, D.int a.2.1]) D.int F__law_cell_at (fun a => t__law_cell_at a.1 a.2.1) := by
  unfold F__law_cell_at m__law_cell_at 
  refine tf_mk4 (n := 2) (fs := [fun a : ((List Int) × (Int × Unit)) => kScr a.1, fun a : ((List Int) × (Int × Unit)) => D.int a.2.1]) (r := 0) (Qn := fun _ (_ : Unit) _ _ => True) (Ql := fun _ (_ : Unit) _ _ => True) (Qx := fun _ _ _ => True) ?hk ?h
  case hk => exact fun _ => rfl
  case h => exact ⟨_, (tb_ifR0 (tt_val (k := D.bl) (td_bin (te_td (td_var (k := D.int) (f := fun s : ((List Int) × (Int × Unit)) => s.2.1) 1 rfl)) (te_td (td_fn (ta_cons (te_td (td_var (k := kScr) (f := fun s : ((List Int) × (Int × Unit)) => s.1) 0 rfl)) ta_nil) (o_lenC))) (o_lt))) nn_ret
    (tb_retD (td_bin (te_td (td_var (k := kScr) (f := fun s : ((List Int) × (Int × Unit)) => s.1) 0 rfl)) (te_td (td_var (k := D.int) (f := fun s : ((List Int) × (Int × Unit)) => s.2.1) 1 rfl)) o_ixC) qr_f (fun _ _ _ _ _ => trivial))
    (tb_retD (td_k (k := D.int) (0 : Int)) qr_f (fun _ _ _ _ _ => trivial)) (fun _ _ _ _ _ => trivial)), fun a => by simp only [t__law_cell_at, R.bind_ok]⟩
noncomputable def t__law_draw (a_cell : Int) (a_j : Int) : R Int := R.fin (N := Unit) (L := Unit) (ρ := Int)
    (R.bind ((R.bind (R.bind (R.bind (R.bind (imulR ((7919 : Int) * a_j) a_j) fun x117 => R.ok (((a_cell % (2147483647 : Int)) * (48271 : Int)) + x117)) fun x119 => R.ok (x119 + ((101 : Int) * a_j))) fun x121 => R.ok (x121 + (11 : Int))) fun x123 => R.ok (x123 % (2147483629 : Int)))) fun number_125 =>
    (R.bind (R.ok (((number_125 * (69621 : Int)) + ((7 : Int) * a_j)) % (2147483587 : Int))) fun number_126 =>
    (R.bind (R.bind (R.bind (R.bind (idivR a_cell (a_j + (2 : Int))) fun x127 => R.ok (x127 % (10000000000000000000000000000000000000000000000000000000000000 : Int))) fun x129 => R.ok ((2147483587 : Int) * x129)) fun x131 => R.ok (number_126 + x131)) fun x133 => R.ok (.rt x133))))
theorem tf__law_draw : TF true false (fun a : (Int × (Int × Unit)) => [D.int a.1, D.int a.2.1]) D.int F__law_draw (fun a => t__law_draw a.1 a.2.1) := by
  unfold F__law_draw m__law_draw 
  refine tf_mk4 (n := 3) (fs := [fun a : (Int × (Int × Unit)) => D.int a.1, fun a : (Int × (Int × Unit)) => D.int a.2.1]) (r := 1) (Qn := fun _ (_ : Unit) _ _ => True) (Ql := fun _ (_ : Unit) _ _ => True) (Qx := fun _ _ _ => True) ?hk ?h
  case hk => exact fun _ => rfl
  case h => exact ⟨_, (tb_set (k := D.int) 2 (td_modK (c := 2147483629) (td_bin (te_td (td_bin (te_td (td_bin (te_td (td_mulK (c := 48271) (td_modK (c := 2147483647) (td_var (k := D.int) (f := fun s : (Int × (Int × Unit)) => s.1) 0 rfl)))) (te_td (td_bin (te_td (td_kMul (c := 7919) (td_var (k := D.int) (f := fun s : (Int × (Int × Unit)) => s.2.1) 1 rfl))) (te_td (td_var (k := D.int) (f := fun s : (Int × (Int × Unit)) => s.2.1) 1 rfl)) o_mul)) o_add)) (te_td (td_kMul (c := 101) (td_var (k := D.int) (f := fun s : (Int × (Int × Unit)) => s.2.1) 1 rfl))) o_add)) (te_td (td_k (k := D.int) (11 : Int))) o_add))
    (tb_set (k := D.int) 2 (td_modK (c := 2147483587) (td_bin (te_td (td_mulK (c := 69621) (td_var (k := D.int) (f := fun s : ((Int × (Int × Unit)) × Int) => s.2) 2 rfl))) (te_td (td_kMul (c := 7) (td_var (k := D.int) (f := fun s : ((Int × (Int × Unit)) × Int) => s.1.2.1) 1 rfl))) o_add))
    (tb_retD (td_bin (te_td (td_var (k := D.int) (f := fun s : (((Int × (Int × Unit)) × Int) × Int) => s.2) 2 rfl)) (te_td (td_kMul (c := 2147483587) (td_modP (c := (10000000000000000000000000000000000000000000000000000000000000 : Int)) (td_bin (te_td (td_var (k := D.int) (f := fun s : (((Int × (Int × Unit)) × Int) × Int) => s.1.1.1) 0 rfl)) (te_td (td_bin (te_td (td_var (k := D.int) (f := fun s : (((Int × (Int × Unit)) × Int) × Int) => s.1.1.2.1) 1 rfl)) (te_td (td_k (k := D.int) (2 : Int))) o_add)) o_div) (td_pow (a := 10) (b := 61) (c := (10000000000000000000000000000000000000000000000000000000000000 : Int)))))) o_add) qr_f (fun _ _ _ _ _ => trivial)) (fun _ _ _ _ _ => trivial)) (fun _ _ _ _ _ => trivial)), fun a => by simp only [t__law_draw, R.bind_ok]⟩
noncomputable def t__law_letters (a_cell : Int) : R (List Nat) := R.fin (N := Unit) (L := Unit) (ρ := (List Nat))
    (R.bind (R.ok (lowL : List Nat)) fun every_134 =>
    (if (decide ((a_cell % (8 : Int)) = (5 : Int))) then (R.ok (.rt every_134))
    else (R.bind ((atR ([(1 : Int), (3 : Int), (5 : Int), (7 : Int), (9 : Int), (11 : Int)] : List Int) ((a_cell / (8 : Int)) % (6 : Int)))) fun step_135 =>
    (R.bind (R.bind (R.bind (rg1 ((2 : Int) + ((a_cell / (7 : Int)) % (3 : Int)))) fun x143 => (R.ne (lcR x143 (fun v136 => R.ok true) fun v136 => (R.bind (R.bind (R.bind (imulR v136 step_135) fun x137 => R.ok ((a_cell / (48 : Int)) + x137)) fun x139 => R.ok (x139 % (26 : Int))) fun x141 => (R.bind (atR every_134 x141) fun c => R.ok [c]))))) fun x153 => (joinR ([] : List Nat) x153)) fun x155 => R.ok (.rt x155)))))
theorem tf__law_letters : TF true false (fun a : (Int × Unit) => [D.int a.1]) D.str F__law_letters (fun a => t__law_letters a.1) := by
  unfold F__law_letters m__law_letters m__law_letters_e0
  refine tf_mk4 (n := 4) (fs := [fun a : (Int × Unit) => D.int a.1]) (r := 3) (Qn := fun _ (_ : Unit) _ _ => True) (Ql := fun _ (_ : Unit) _ _ => True) (Qx := fun _ _ _ => True) ?hk ?h
  case hk => exact fun _ => rfl
  case h => exact ⟨_, (tb_set (k := D.str) 1 (td_k (k := D.str) (lowL : List Nat))
    (tb_ifR0 (tt_val (k := D.bl) (td_bin (te_td (td_modK (c := 8) (td_var (k := D.int) (f := fun s : ((Int × Unit) × (List Nat)) => s.1.1) 0 rfl))) (te_td (td_k (k := D.int) (5 : Int))) (o_eq (k := D.int)))) nn_ret
    (tb_retD (td_var (k := D.str) (f := fun s : ((Int × Unit) × (List Nat)) => s.2) 1 rfl) qr_f (fun _ _ _ _ _ => trivial))
    (tb_set (k := D.int) 2 (td_bin (te_td (td_lst (k := (kLs D.int)) (fun a : (Int × (Int × (Int × (Int × (Int × (Int × Unit)))))) => ([a.1, a.2.1, a.2.2.1, a.2.2.2.1, a.2.2.2.2.1, a.2.2.2.2.2.1] : List Int)) (tad_cons (td_k (k := D.int) (1 : Int)) (tad_cons (td_k (k := D.int) (3 : Int)) (tad_cons (td_k (k := D.int) (5 : Int)) (tad_cons (td_k (k := D.int) (7 : Int)) (tad_cons (td_k (k := D.int) (9 : Int)) (tad_cons (td_k (k := D.int) (11 : Int)) tad_nil)))))))) (te_td (td_modK (c := 6) (td_divK (c := 8) (td_var (k := D.int) (f := fun s : ((Int × Unit) × (List Nat)) => s.1.1) 0 rfl)))) o_ixL)
    (tb_retD (td_bm (te_td (td_k (k := D.str) ([] : List Nat))) (ta_cons (te_td (td_lc (x2 := false) (x3 := false) (ws := [(3, fun v : Int => D.int v)]) (kx := D.int) (ky := D.str) (own := [3]) (tw_ti (ti_range1 (td_bin (te_td (td_k (k := D.int) (2 : Int))) (te_td (td_modK (c := 3) (td_divK (c := 7) (td_var (k := D.int) (f := fun s : (((Int × Unit) × (List Nat)) × Int) => s.1.1.1) 0 rfl)))) o_add))) (fun _ _ => rfl) tt_true (td_bin (te_td (td_var (k := D.str) (f := fun s : ((((Int × Unit) × (List Nat)) × Int) × Int) => s.1.1.2) 1 rfl)) (te_td (td_modK (c := 26) (td_bin (te_td (td_divK (c := 48) (td_var (k := D.int) (f := fun s : ((((Int × Unit) × (List Nat)) × Int) × Int) => s.1.1.1.1) 0 rfl))) (te_td (td_bin (te_td (td_var (k := D.int) (f := fun s : ((((Int × Unit) × (List Nat)) × Int) × Int) => s.2) 3 rfl)) (te_td (td_var (k := D.int) (f := fun s : ((((Int × Unit) × (List Nat)) × Int) × Int) => s.1.2) 2 rfl)) o_mul)) o_add))) o_ixS))) ta_nil) ik_str (o_joinL)) qr_f (fun _ _ _ _ _ => trivial)) (fun _ _ _ _ _ => trivial)) (fun _ _ _ _ _ => trivial)) (fun _ _ _ _ _ => trivial)), fun a => by simp only [t__law_letters, R.bind_ok]⟩
noncomputable def t__law_sign (a_cell : Int) (a_letters_here : (List Nat)) : R (List Nat) := R.fin (N := Unit) (L := Unit) (ρ := (List Nat))
    (R.bind ((R.bind (imodR a_cell ((a_letters_here.length : Nat) : Int)) fun x156 => (R.bind (atR a_letters_here x156) fun c => R.ok [c]))) fun letter_158 =>
    (if (decide (((a_cell / (64 : Int)) % (5 : Int)) = (1 : Int))) then (R.bind (uppR letter_158) fun x159 => R.ok (.rt x159))
    else (R.ok (.rt letter_158))))
theorem tf__law_sign : TF true false (fun a : (Int × ((List Nat) × Unit)) => [D.int a.1, D.str a.2.1]) D.str F__law_sign (fun a => t__law_sign a.1 a.2.1) := by
  unfold F__law_sign m__law_sign 
  refine tf_mk4 (n := 3) (fs := [fun a : (Int × ((List Nat) × Unit)) => D.int a.1, fun a : (Int × ((List Nat) × Unit)) => D.str a.2.1]) (r := 1) (Qn := fun _ (_ : Unit) _ _ => True) (Ql := fun _ (_ : Unit) _ _ => True) (Qx := fun _ _ _ => True) ?hk ?h
  case hk => exact fun _ => rfl
  case h => exact ⟨_, (tb_set (k := D.str) 2 (td_bin (te_td (td_var (k := D.str) (f := fun s : (Int × ((List Nat) × Unit)) => s.2.1) 1 rfl)) (te_td (td_bin (te_td (td_var (k := D.int) (f := fun s : (Int × ((List Nat) × Unit)) => s.1) 0 rfl)) (te_td (td_fn (ta_cons (te_td (td_var (k := D.str) (f := fun s : (Int × ((List Nat) × Unit)) => s.2.1) 1 rfl)) ta_nil) (o_lenS))) o_mod)) o_ixS)
    (tb_ifR0 (tt_val (k := D.bl) (td_bin (te_td (td_modK (c := 5) (td_divK (c := 64) (td_var (k := D.int) (f := fun s : ((Int × ((List Nat) × Unit)) × (List Nat)) => s.1.1) 0 rfl)))) (te_td (td_k (k := D.int) (1 : Int))) (o_eq (k := D.int)))) nn_ret
    (tb_retD (td_bm (te_td (td_var (k := D.str) (f := fun s : ((Int × ((List Nat) × Unit)) × (List Nat)) => s.2) 2 rfl)) ta_nil ik_str (o_upper)) qr_f (fun _ _ _ _ _ => trivial))
    (tb_retD (td_var (k := D.str) (f := fun s : ((Int × ((List Nat) × Unit)) × (List Nat)) => s.2) 2 rfl) qr_f (fun _ _ _ _ _ => trivial)) (fun _ _ _ _ _ => trivial)) (fun _ _ _ _ _ => trivial)), fun a => by simp only [t__law_sign, R.bind_ok]⟩
noncomputable def t__law_marks (a_rows_here : (List (List Nat))) (a_cell : Int) : R (List (List Nat)) := R.fin (N := Unit) (L := Unit) (ρ := (List (List Nat)))
    (R.bind (R.ok ([] : List (List Nat))) fun found_160 =>
    (R.bind (rg1 ((a_rows_here.length : Nat) : Int)) fun xs185 => R.seq (ρ := (List (List Nat))) (forR (ρ := (List (List Nat))) xs185 found_160 fun (found_163 : ((List (List Nat)))) (row_164 : Int) =>
    (R.bind (R.ok ([] : List Nat)) fun text_165 =>
    (R.bind (R.bind (R.bind (atR a_rows_here (0 : Int)) fun x166 => R.ok ((x166.length : Nat) : Int)) fun x168 => (rg1 x168)) fun xs183 => R.seq (ρ := (List (List Nat))) (forR (ρ := (List (List Nat))) xs183 text_165 fun (text_171 : ((List Nat))) (column_172 : Int) =>
    (R.bind ((t__law_draw a_cell (((100 : Int) + ((9 : Int) * row_164)) + column_172))) fun number_173 =>
    (R.bind ((R.bind (R.bind (R.bind (mulR ([46] : List Nat) (12 : Int)) fun x174 => (addR ([50, 51, 52, 98, 99, 100] : List Nat) x174)) fun x176 => (R.bind (atR x176 (number_173 % (18 : Int))) fun c => R.ok [c])) fun x178 => (addR text_171 x178))) fun text_180 =>
    (R.ok (.nx text_180))))) fun l181 =>
    (R.bind ((appR found_163 l181)) fun found_182 =>
    (R.ok (.nx found_182)))))) fun l184 =>
    (R.ok (.rt l184))))
theorem tf__law_marks : TF true false (fun a : ((List (List Nat)) × (Int × Unit)) => [(kTp D.str) a.1, D.int a.2.1]) (kTp D.str) F__law_marks (fun a => t__law_marks a.1 a.2.1) := by
  unfold F__law_marks m__law_marks m__law_marks_b1 m__law_marks_b0
  refine tf_mk4 (n := 7) (fs := [fun a : ((List (List Nat)) × (Int × Unit)) => (kTp D.str) a.1, fun a : ((List (List Nat)) × (Int × Unit)) => D.int a.2.1]) (r := 5) (Qn := fun _ (_ : Unit) _ _ => True) (Ql := fun _ (_ : Unit) _ _ => True) (Qx := fun _ _ _ => True) ?hk ?h
  case hk => exact fun _ => rfl
  case h => exact ⟨_, (tb_setC (k := (kLs D.str)) 2 (tc_lst (k := (kLs D.str)) (fun a : Unit => ([] : List (List Nat))) tad_nil) (fun n_161 =>
    (tb_for (L' := ((List (List Nat)))) (δ := [.val (fun t : ((((List (List Nat)) × (Int × Unit)) × (List (List Nat))) × ((List (List Nat)))) => (kTp D.str) t.1.1.1), .val (fun t : ((((List (List Nat)) × (Int × Unit)) × (List (List Nat))) × ((List (List Nat)))) => D.int t.1.1.2.1), .cel (some n_161) (fun t : ((((List (List Nat)) × (Int × Unit)) × (List (List Nat))) × ((List (List Nat)))) => (kLs D.str) t.2), .un, .un, .un, .un]) (kx := D.int) (ws := [(3, fun v : Int => D.int v)]) (fun s : (((List (List Nat)) × (Int × Unit)) × (List (List Nat))) => s.2) (ti_range1 (td_fn (ta_cons (te_td (td_var (k := (kTp D.str)) (f := fun s : (((List (List Nat)) × (Int × Unit)) × (List (List Nat))) => s.1.1) 0 rfl)) ta_nil) (o_lenT (k := D.str)))) (fun _ _ => rfl) (by exact ⟨(fun _ => rfl), ⟨(fun _ => rfl), ⟨⟨rfl, fun _ => rfl⟩, ⟨trivial, ⟨trivial, ⟨trivial, ⟨trivial, trivial⟩⟩⟩⟩⟩⟩⟩)
    (tb_set (k := D.str) 4 (td_k (k := D.str) ([] : List Nat))
    (tb_for (L' := ((List Nat))) (δ := [.val (fun t : (((((((List (List Nat)) × (Int × Unit)) × (List (List Nat))) × ((List (List Nat)))) × Int) × (List Nat)) × ((List Nat))) => (kTp D.str) t.1.1.1.1.1.1), .val (fun t : (((((((List (List Nat)) × (Int × Unit)) × (List (List Nat))) × ((List (List Nat)))) × Int) × (List Nat)) × ((List Nat))) => D.int t.1.1.1.1.1.2.1), .cel (some n_161) (fun t : (((((((List (List Nat)) × (Int × Unit)) × (List (List Nat))) × ((List (List Nat)))) × Int) × (List Nat)) × ((List Nat))) => (kLs D.str) t.1.1.1.2), .val (fun t : (((((((List (List Nat)) × (Int × Unit)) × (List (List Nat))) × ((List (List Nat)))) × Int) × (List Nat)) × ((List Nat))) => D.int t.1.1.2), .val (fun t : (((((((List (List Nat)) × (Int × Unit)) × (List (List Nat))) × ((List (List Nat)))) × Int) × (List Nat)) × ((List Nat))) => D.str t.2), .un, .un]) (kx := D.int) (ws := [(5, fun v : Int => D.int v)]) (fun s : ((((((List (List Nat)) × (Int × Unit)) × (List (List Nat))) × ((List (List Nat)))) × Int) × (List Nat)) => s.2) (ti_range1 (td_fn (ta_cons (te_td (td_bin (te_td (td_var (k := (kTp D.str)) (f := fun s : ((((((List (List Nat)) × (Int × Unit)) × (List (List Nat))) × ((List (List Nat)))) × Int) × (List Nat)) => s.1.1.1.1.1) 0 rfl)) (te_td (td_k (k := D.int) (0 : Int))) o_ixT)) ta_nil) (o_lenS))) (fun _ _ => rfl) (by exact ⟨(fun _ => rfl), ⟨(fun _ => rfl), ⟨⟨rfl, fun _ => rfl⟩, ⟨(fun _ => rfl), ⟨(fun _ => rfl), ⟨trivial, ⟨trivial, trivial⟩⟩⟩⟩⟩⟩⟩)
    (tb_set (k := D.int) 6 (td_call (tad_cons (td_var (k := D.int) (f := fun s : ((((((((List (List Nat)) × (Int × Unit)) × (List (List Nat))) × ((List (List Nat)))) × Int) × (List Nat)) × ((List Nat))) × Int) => s.1.1.1.1.1.1.2.1) 1 rfl) (tad_cons (td_bin (te_td (td_bin (te_td (td_k (k := D.int) (100 : Int))) (te_td (td_kMul (c := 9) (td_var (k := D.int) (f := fun s : ((((((((List (List Nat)) × (Int × Unit)) × (List (List Nat))) × ((List (List Nat)))) × Int) × (List Nat)) × ((List Nat))) × Int) => s.1.1.1.2) 3 rfl))) o_add)) (te_td (td_var (k := D.int) (f := fun s : ((((((((List (List Nat)) × (Int × Unit)) × (List (List Nat))) × ((List (List Nat)))) × Int) × (List Nat)) × ((List Nat))) × Int) => s.2) 5 rfl)) o_add) tad_nil)) tf__law_draw)
    (tb_last (tb_set (k := D.str) 4 (td_bin (te_td (td_var (k := D.str) (f := fun s : (((((((((List (List Nat)) × (Int × Unit)) × (List (List Nat))) × ((List (List Nat)))) × Int) × (List Nat)) × ((List Nat))) × Int) × Int) => s.1.1.2) 4 rfl)) (te_td (td_bin (te_td (td_bin (te_td (td_k (k := D.str) ([50, 51, 52, 98, 99, 100] : List Nat))) (te_td (td_bin (te_td (td_k (k := D.str) ([46] : List Nat))) (te_td (td_k (k := D.int) (12 : Int))) o_mulS)) o_addS)) (te_td (td_modK (c := 18) (td_var (k := D.int) (f := fun s : (((((((((List (List Nat)) × (Int × Unit)) × (List (List Nat))) × ((List (List Nat)))) × Int) × (List Nat)) × ((List Nat))) × Int) × Int) => s.2) 6 rfl))) o_ixS)) o_addS)
    (tb_end (fun s : ((((((((((List (List Nat)) × (Int × Unit)) × (List (List Nat))) × ((List (List Nat)))) × Int) × (List Nat)) × ((List Nat))) × Int) × Int) × (List Nat)) => s.2) (fun s e μ E => Enc.wk (p := fun s : ((((((((((List (List Nat)) × (Int × Unit)) × (List (List Nat))) × ((List (List Nat)))) × Int) × (List Nat)) × ((List Nat))) × Int) × Int) × (List Nat)) => (s.1.1.1.1, s.2)) (by exact ⟨(fun _ => rfl), ⟨(fun _ => rfl), ⟨⟨rfl, fun _ => rfl⟩, ⟨(fun _ => rfl), ⟨(fun _ => rfl), ⟨trivial, ⟨trivial, trivial⟩⟩⟩⟩⟩⟩⟩) E)) (fun _ _ _ _ _ => trivial))) (fun _ _ _ _ _ => trivial))
    (tb_last (tb_mutD (kc := (kLs D.str)) (f := fun s : (((((((List (List Nat)) × (Int × Unit)) × (List (List Nat))) × ((List (List Nat)))) × Int) × (List Nat)) × ((List Nat))) => s.1.1.1.2) 2 rfl (tad_cons (td_var (k := D.str) (f := fun s : (((((((List (List Nat)) × (Int × Unit)) × (List (List Nat))) × ((List (List Nat)))) × Int) × (List Nat)) × ((List Nat))) => s.2) 4 rfl) tad_nil) ct_lst (o_appendD (k := D.str))
    (tb_end (fun s : ((((((((List (List Nat)) × (Int × Unit)) × (List (List Nat))) × ((List (List Nat)))) × Int) × (List Nat)) × ((List Nat))) × (List (List Nat))) => s.2) (fun s e μ E => Enc.wk (p := fun s : ((((((((List (List Nat)) × (Int × Unit)) × (List (List Nat))) × ((List (List Nat)))) × Int) × (List Nat)) × ((List Nat))) × (List (List Nat))) => (s.1.1.1.1.1, s.2)) (by exact ⟨(fun _ => rfl), ⟨(fun _ => rfl), ⟨⟨rfl, fun _ => rfl⟩, ⟨trivial, ⟨trivial, ⟨trivial, ⟨trivial, trivial⟩⟩⟩⟩⟩⟩⟩) E)) (fun _ _ _ _ _ => trivial))) (fun _ _ _ _ _ => trivial)) (fun _ _ _ _ _ => trivial))
    (tb_retD (td_fn (ta_cons (te_cel (k := (kLs D.str)) (f := fun s : ((((List (List Nat)) × (Int × Unit)) × (List (List Nat))) × ((List (List Nat)))) => s.2) 2 rfl) ta_nil) (o_tupleL (k := D.str))) qr_f (fun _ _ _ _ _ => trivial)) (fun _ _ _ _ _ => trivial))) (fun _ _ _ _ _ => trivial)), fun a => by simp only [t__law_marks, R.bind_ok]⟩
noncomputable def t__law_rows (a_script : (List Int)) (a_letters_here : (List Nat)) : R (List (List Nat)) := R.fin (N := Unit) (L := Unit) (ρ := (List (List Nat)))
    (R.bind ((t__law_cell_at a_script (1 : Int))) fun cell_186 =>
    (R.bind (R.ok ((1 : Int) + (cell_186 % (6 : Int)))) fun tall_187 =>
    (R.bind (R.ok ((1 : Int) + ((cell_186 / (6 : Int)) % (6 : Int)))) fun wide_188 =>
    (R.seq (ρ := (List (List Nat))) (if (decide (((cell_186 / (36 : Int)) % (8 : Int)) = (3 : Int))) then (R.bind (R.ok ((1 : Int) + ((cell_186 / (288 : Int)) % (9 : Int)))) fun tall_190 =>
    (R.bind (R.ok ((1 : Int) + ((cell_186 / (2592 : Int)) % (9 : Int)))) fun wide_191 =>
    (R.ok (.nx (tall_190, wide_191)))))
    else (R.ok (.nx (tall_187, wide_188)))) fun j192 =>
    (R.bind ((t__law_cell_at a_script (2 : Int))) fun lies_193 =>
    (R.bind ((atR ([(0 : Int), (1 : Int), (1 : Int), (2 : Int), (2 : Int), (3 : Int), (4 : Int), (1 : Int)] : List Int) (lies_193 % (8 : Int)))) fun full_194 =>
    (R.bind (R.ok (lies_193 / (16 : Int))) fun rest_195 =>
    (R.bind (R.ok ([] : List (List Nat))) fun rows_here_196 =>
    (R.bind (rg1 j192.1) fun xs229 => R.seq (ρ := (List (List Nat))) (forR (ρ := (List (List Nat))) xs229 (rest_195, rows_here_196) fun (l199 : (Int × (List (List Nat)))) (row_200 : Int) =>
    (R.bind (R.ok ([] : List Nat)) fun text_201 =>
    (R.bind (rg1 j192.2) fun xs216 => R.seq (ρ := (List (List Nat))) (forR (ρ := (List (List Nat))) xs216 (l199.1, text_201) fun (l203 : (Int × (List Nat))) (column_204 : Int) =>
    (R.bind ((t__law_draw lies_193 (((10 : Int) + ((9 : Int) * row_200)) + column_204))) fun number_205 =>
    (R.seq (ρ := (List (List Nat))) (if (decide (((lies_193 / (8 : Int)) % (2 : Int)) = (1 : Int))) then (R.bind (R.ok (l203.1 % (2000 : Int))) fun number_207 =>
    (R.bind (R.ok (l203.1 / (2000 : Int))) fun rest_208 =>
    (R.ok (.nx (rest_208, number_207)))))
    else (R.ok (.nx (l203.1, number_205)))) fun j209 =>
    (if (decide ((j209.2 % (6 : Int)) < full_194)) then (R.bind ((R.bind (t__law_sign (j209.2 / (6 : Int)) a_letters_here) fun x210 => (addR l203.2 x210))) fun text_212 =>
    (R.ok (.nx (j209.1, text_212))))
    else (R.bind ((addR l203.2 ([46] : List Nat))) fun text_213 =>
    (R.ok (.nx (j209.1, text_213)))))))) fun l214 =>
    (R.bind ((appR l199.2 l214.2)) fun rows_here_215 =>
    (R.ok (.nx (l214.1, rows_here_215))))))) fun l217 =>
    (R.bind ((R.bind (imulR j192.1 j192.2) fun x218 => (imodR (cell_186 / (7 : Int)) x218))) fun free_220 =>
    (R.bind ((idivR free_220 j192.2)) fun row_221 =>
    (R.bind ((atR l217.2 row_221)) fun line_222 =>
    (R.bind ((imodR free_220 j192.2)) fun spot_223 =>
    (R.bind ((R.bind (R.bind (addR (cutL line_222 none (some spot_223)) ([46] : List Nat)) fun x225 => (addR x225 (cutL line_222 (some (spot_223 + (1 : Int))) none))) fun x227 => (R.ne (setR l217.2 row_221 x227)))) fun rows_here_224 =>
    (R.ok (.rt rows_here_224))))))))))))))))
theorem tf__law_rows : TF true false (fun a : ((List Int) × ((List Nat) × Unit)) => [kScr a.1, D.str a.2.1]) (kTp D.str) F__law_rows (fun a => t__law_rows a.1 a.2.1) := by
  unfold F__law_rows m__law_rows m__law_rows_b1 m__law_rows_b0
  refine tf_mk4 (n := 16) (fs := [fun a : ((List Int) × ((List Nat) × Unit)) => kScr a.1, fun a : ((List Int) × ((List Nat) × Unit)) => D.str a.2.1]) (r := 14) (Qn := fun _ (_ : Unit) _ _ => True) (Ql := fun _ (_ : Unit) _ _ => True) (Qx := fun _ _ _ => True) ?hk ?h
  case hk => exact fun _ => rfl
  case h => exact ⟨_, (tb_set (k := D.int) 2 (td_call (tad_cons (td_var (k := kScr) (f := fun s : ((List Int) × ((List Nat) × Unit)) => s.1) 0 rfl) (tad_cons (td_k (k := D.int) (1 : Int)) tad_nil)) tf__law_cell_at)
    (tb_set (k := D.int) 3 (td_bin (te_td (td_k (k := D.int) (1 : Int))) (te_td (td_modK (c := 6) (td_var (k := D.int) (f := fun s : (((List Int) × ((List Nat) × Unit)) × Int) => s.2) 2 rfl))) o_add)
    (tb_set (k := D.int) 4 (td_bin (te_td (td_k (k := D.int) (1 : Int))) (te_td (td_modK (c := 6) (td_divK (c := 6) (td_var (k := D.int) (f := fun s : ((((List Int) × ((List Nat) × Unit)) × Int) × Int) => s.1.2) 2 rfl)))) o_add)
    (tb_ifJ (Y := (Int × Int)) (δ := [.val (fun t : ((((((List Int) × ((List Nat) × Unit)) × Int) × Int) × Int) × (Int × Int)) => kScr t.1.1.1.1.1), .val (fun t : ((((((List Int) × ((List Nat) × Unit)) × Int) × Int) × Int) × (Int × Int)) => D.str t.1.1.1.1.2.1), .val (fun t : ((((((List Int) × ((List Nat) × Unit)) × Int) × Int) × Int) × (Int × Int)) => D.int t.1.1.1.2), .val (fun t : ((((((List Int) × ((List Nat) × Unit)) × Int) × Int) × Int) × (Int × Int)) => D.int t.2.1), .val (fun t : ((((((List Int) × ((List Nat) × Unit)) × Int) × Int) × Int) × (Int × Int)) => D.int t.2.2), .un, .un, .un, .un, .un, .un, .un, .un, .un, .un, .un]) (tt_val (k := D.bl) (td_bin (te_td (td_modK (c := 8) (td_divK (c := 36) (td_var (k := D.int) (f := fun s : (((((List Int) × ((List Nat) × Unit)) × Int) × Int) × Int) => s.1.1.2) 2 rfl)))) (te_td (td_k (k := D.int) (3 : Int))) (o_eq (k := D.int))))
    (tb_set (k := D.int) 3 (td_bin (te_td (td_k (k := D.int) (1 : Int))) (te_td (td_modK (c := 9) (td_divK (c := 288) (td_var (k := D.int) (f := fun s : (((((List Int) × ((List Nat) × Unit)) × Int) × Int) × Int) => s.1.1.2) 2 rfl)))) o_add)
    (tb_last (tb_set (k := D.int) 4 (td_bin (te_td (td_k (k := D.int) (1 : Int))) (te_td (td_modK (c := 9) (td_divK (c := 2592) (td_var (k := D.int) (f := fun s : ((((((List Int) × ((List Nat) × Unit)) × Int) × Int) × Int) × Int) => s.1.1.1.2) 2 rfl)))) o_add)
    (tb_end (fun s : (((((((List Int) × ((List Nat) × Unit)) × Int) × Int) × Int) × Int) × Int) => (s.1.2, s.2)) (fun s e μ E => Enc.wk (p := fun s : (((((((List Int) × ((List Nat) × Unit)) × Int) × Int) × Int) × Int) × Int) => (s.1.1, (s.1.2, s.2))) (by exact ⟨(fun _ => rfl), ⟨(fun _ => rfl), ⟨(fun _ => rfl), ⟨(fun _ => rfl), ⟨(fun _ => rfl), ⟨trivial, ⟨trivial, ⟨trivial, ⟨trivial, ⟨trivial, ⟨trivial, ⟨trivial, ⟨trivial, ⟨trivial, ⟨trivial, ⟨trivial, trivial⟩⟩⟩⟩⟩⟩⟩⟩⟩⟩⟩⟩⟩⟩⟩⟩) E)) (fun _ _ _ _ _ => trivial))) (fun _ _ _ _ _ => trivial))
    (tb_end (fun s : (((((List Int) × ((List Nat) × Unit)) × Int) × Int) × Int) => (s.1.2, s.2)) (fun s e μ E => Enc.wk (p := fun s : (((((List Int) × ((List Nat) × Unit)) × Int) × Int) × Int) => (s, (s.1.2, s.2))) (by exact ⟨(fun _ => rfl), ⟨(fun _ => rfl), ⟨(fun _ => rfl), ⟨(fun _ => rfl), ⟨(fun _ => rfl), ⟨trivial, ⟨trivial, ⟨trivial, ⟨trivial, ⟨trivial, ⟨trivial, ⟨trivial, ⟨trivial, ⟨trivial, ⟨trivial, ⟨trivial, trivial⟩⟩⟩⟩⟩⟩⟩⟩⟩⟩⟩⟩⟩⟩⟩⟩) E))
    (tb_set (k := D.int) 5 (td_call (tad_cons (td_var (k := kScr) (f := fun s : ((((((List Int) × ((List Nat) × Unit)) × Int) × Int) × Int) × (Int × Int)) => s.1.1.1.1.1) 0 rfl) (tad_cons (td_k (k := D.int) (2 : Int)) tad_nil)) tf__law_cell_at)
    (tb_set (k := D.int) 6 (td_bin (te_td (td_lst (k := (kLs D.int)) (fun a : (Int × (Int × (Int × (Int × (Int × (Int × (Int × (Int × Unit)))))))) => ([a.1, a.2.1, a.2.2.1, a.2.2.2.1, a.2.2.2.2.1, a.2.2.2.2.2.1, a.2.2.2.2.2.2.1, a.2.2.2.2.2.2.2.1] : List Int)) (tad_cons (td_k (k := D.int) (0 : Int)) (tad_cons (td_k (k := D.int) (1 : Int)) (tad_cons (td_k (k := D.int) (1 : Int)) (tad_cons (td_k (k := D.int) (2 : Int)) (tad_cons (td_k (k := D.int) (2 : Int)) (tad_cons (td_k (k := D.int) (3 : Int)) (tad_cons (td_k (k := D.int) (4 : Int)) (tad_cons (td_k (k := D.int) (1 : Int)) tad_nil)))))))))) (te_td (td_modK (c := 8) (td_var (k := D.int) (f := fun s : (((((((List Int) × ((List Nat) × Unit)) × Int) × Int) × Int) × (Int × Int)) × Int) => s.2) 5 rfl))) o_ixL)
    (tb_set (k := D.int) 7 (td_divK (c := 16) (td_var (k := D.int) (f := fun s : ((((((((List Int) × ((List Nat) × Unit)) × Int) × Int) × Int) × (Int × Int)) × Int) × Int) => s.1.2) 5 rfl))
    (tb_setC (k := (kLs D.str)) 8 (tc_lst (k := (kLs D.str)) (fun a : Unit => ([] : List (List Nat))) tad_nil) (fun n_197 =>
    (tb_for (L' := (Int × (List (List Nat)))) (δ := [.val (fun t : (((((((((((List Int) × ((List Nat) × Unit)) × Int) × Int) × Int) × (Int × Int)) × Int) × Int) × Int) × (List (List Nat))) × (Int × (List (List Nat)))) => kScr t.1.1.1.1.1.1.1.1.1.1), .val (fun t : (((((((((((List Int) × ((List Nat) × Unit)) × Int) × Int) × Int) × (Int × Int)) × Int) × Int) × Int) × (List (List Nat))) × (Int × (List (List Nat)))) => D.str t.1.1.1.1.1.1.1.1.1.2.1), .val (fun t : (((((((((((List Int) × ((List Nat) × Unit)) × Int) × Int) × Int) × (Int × Int)) × Int) × Int) × Int) × (List (List Nat))) × (Int × (List (List Nat)))) => D.int t.1.1.1.1.1.1.1.1.2), .val (fun t : (((((((((((List Int) × ((List Nat) × Unit)) × Int) × Int) × Int) × (Int × Int)) × Int) × Int) × Int) × (List (List Nat))) × (Int × (List (List Nat)))) => D.int t.1.1.1.1.1.2.1), .val (fun t : (((((((((((List Int) × ((List Nat) × Unit)) × Int) × Int) × Int) × (Int × Int)) × Int) × Int) × Int) × (List (List Nat))) × (Int × (List (List Nat)))) => D.int t.1.1.1.1.1.2.2), .val (fun t : (((((((((((List Int) × ((List Nat) × Unit)) × Int) × Int) × Int) × (Int × Int)) × Int) × Int) × Int) × (List (List Nat))) × (Int × (List (List Nat)))) => D.int t.1.1.1.1.2), .val (fun t : (((((((((((List Int) × ((List Nat) × Unit)) × Int) × Int) × Int) × (Int × Int)) × Int) × Int) × Int) × (List (List Nat))) × (Int × (List (List Nat)))) => D.int t.1.1.1.2), .val (fun t : (((((((((((List Int) × ((List Nat) × Unit)) × Int) × Int) × Int) × (Int × Int)) × Int) × Int) × Int) × (List (List Nat))) × (Int × (List (List Nat)))) => D.int t.2.1), .cel (some n_197) (fun t : (((((((((((List Int) × ((List Nat) × Unit)) × Int) × Int) × Int) × (Int × Int)) × Int) × Int) × Int) × (List (List Nat))) × (Int × (List (List Nat)))) => (kLs D.str) t.2.2), .un, .un, .un, .un, .un, .un, .un]) (kx := D.int) (ws := [(9, fun v : Int => D.int v)]) (fun s : ((((((((((List Int) × ((List Nat) × Unit)) × Int) × Int) × Int) × (Int × Int)) × Int) × Int) × Int) × (List (List Nat))) => (s.1.2, s.2)) (ti_range1 (td_var (k := D.int) (f := fun s : ((((((((((List Int) × ((List Nat) × Unit)) × Int) × Int) × Int) × (Int × Int)) × Int) × Int) × Int) × (List (List Nat))) => s.1.1.1.1.2.1) 3 rfl)) (fun _ _ => rfl) (by exact ⟨(fun _ => rfl), ⟨(fun _ => rfl), ⟨(fun _ => rfl), ⟨(fun _ => rfl), ⟨(fun _ => rfl), ⟨(fun _ => rfl), ⟨(fun _ => rfl), ⟨(fun _ => rfl), ⟨⟨rfl, fun _ => rfl⟩, ⟨trivial, ⟨trivial, ⟨trivial, ⟨trivial, ⟨trivial, ⟨trivial, ⟨trivial, trivial⟩⟩⟩⟩⟩⟩⟩⟩⟩⟩⟩⟩⟩⟩⟩⟩)
    (tb_set (k := D.str) 13 (td_k (k := D.str) ([] : List Nat))
    (tb_for (L' := (Int × (List Nat))) (δ := [.val (fun t : ((((((((((((((List Int) × ((List Nat) × Unit)) × Int) × Int) × Int) × (Int × Int)) × Int) × Int) × Int) × (List (List Nat))) × (Int × (List (List Nat)))) × Int) × (List Nat)) × (Int × (List Nat))) => kScr t.1.1.1.1.1.1.1.1.1.1.1.1.1), .val (fun t : ((((((((((((((List Int) × ((List Nat) × Unit)) × Int) × Int) × Int) × (Int × Int)) × Int) × Int) × Int) × (List (List Nat))) × (Int × (List (List Nat)))) × Int) × (List Nat)) × (Int × (List Nat))) => D.str t.1.1.1.1.1.1.1.1.1.1.1.1.2.1), .val (fun t : ((((((((((((((List Int) × ((List Nat) × Unit)) × Int) × Int) × Int) × (Int × Int)) × Int) × Int) × Int) × (List (List Nat))) × (Int × (List (List Nat)))) × Int) × (List Nat)) × (Int × (List Nat))) => D.int t.1.1.1.1.1.1.1.1.1.1.1.2), .val (fun t : ((((((((((((((List Int) × ((List Nat) × Unit)) × Int) × Int) × Int) × (Int × Int)) × Int) × Int) × Int) × (List (List Nat))) × (Int × (List (List Nat)))) × Int) × (List Nat)) × (Int × (List Nat))) => D.int t.1.1.1.1.1.1.1.1.2.1), .val (fun t : ((((((((((((((List Int) × ((List Nat) × Unit)) × Int) × Int) × Int) × (Int × Int)) × Int) × Int) × Int) × (List (List Nat))) × (Int × (List (List Nat)))) × Int) × (List Nat)) × (Int × (List Nat))) => D.int t.1.1.1.1.1.1.1.1.2.2), .val (fun t : ((((((((((((((List Int) × ((List Nat) × Unit)) × Int) × Int) × Int) × (Int × Int)) × Int) × Int) × Int) × (List (List Nat))) × (Int × (List (List Nat)))) × Int) × (List Nat)) × (Int × (List Nat))) => D.int t.1.1.1.1.1.1.1.2), .val (fun t : ((((((((((((((List Int) × ((List Nat) × Unit)) × Int) × Int) × Int) × (Int × Int)) × Int) × Int) × Int) × (List (List Nat))) × (Int × (List (List Nat)))) × Int) × (List Nat)) × (Int × (List Nat))) => D.int t.1.1.1.1.1.1.2), .val (fun t : ((((((((((((((List Int) × ((List Nat) × Unit)) × Int) × Int) × Int) × (Int × Int)) × Int) × Int) × Int) × (List (List Nat))) × (Int × (List (List Nat)))) × Int) × (List Nat)) × (Int × (List Nat))) => D.int t.2.1), .cel (some n_197) (fun t : ((((((((((((((List Int) × ((List Nat) × Unit)) × Int) × Int) × Int) × (Int × Int)) × Int) × Int) × Int) × (List (List Nat))) × (Int × (List (List Nat)))) × Int) × (List Nat)) × (Int × (List Nat))) => (kLs D.str) t.1.1.1.2.2), .val (fun t : ((((((((((((((List Int) × ((List Nat) × Unit)) × Int) × Int) × Int) × (Int × Int)) × Int) × Int) × Int) × (List (List Nat))) × (Int × (List (List Nat)))) × Int) × (List Nat)) × (Int × (List Nat))) => D.int t.1.1.2), .un, .un, .un, .val (fun t : ((((((((((((((List Int) × ((List Nat) × Unit)) × Int) × Int) × Int) × (Int × Int)) × Int) × Int) × Int) × (List (List Nat))) × (Int × (List (List Nat)))) × Int) × (List Nat)) × (Int × (List Nat))) => D.str t.2.2), .un, .un]) (kx := D.int) (ws := [(14, fun v : Int => D.int v)]) (fun s : (((((((((((((List Int) × ((List Nat) × Unit)) × Int) × Int) × Int) × (Int × Int)) × Int) × Int) × Int) × (List (List Nat))) × (Int × (List (List Nat)))) × Int) × (List Nat)) => (s.1.1.2.1, s.2)) (ti_range1 (td_var (k := D.int) (f := fun s : (((((((((((((List Int) × ((List Nat) × Unit)) × Int) × Int) × Int) × (Int × Int)) × Int) × Int) × Int) × (List (List Nat))) × (Int × (List (List Nat)))) × Int) × (List Nat)) => s.1.1.1.1.1.1.1.2.2) 4 rfl)) (fun _ _ => rfl) (by exact ⟨(fun _ => rfl), ⟨(fun _ => rfl), ⟨(fun _ => rfl), ⟨(fun _ => rfl), ⟨(fun _ => rfl), ⟨(fun _ => rfl), ⟨(fun _ => rfl), ⟨(fun _ => rfl), ⟨⟨rfl, fun _ => rfl⟩, ⟨(fun _ => rfl), ⟨trivial, ⟨trivial, ⟨trivial, ⟨(fun _ => rfl), ⟨trivial, ⟨trivial, trivial⟩⟩⟩⟩⟩⟩⟩⟩⟩⟩⟩⟩⟩⟩⟩⟩)
    (tb_set (k := D.int) 15 (td_call (tad_cons (td_var (k := D.int) (f := fun s : (((((((((((((((List Int) × ((List Nat) × Unit)) × Int) × Int) × Int) × (Int × Int)) × Int) × Int) × Int) × (List (List Nat))) × (Int × (List (List Nat)))) × Int) × (List Nat)) × (Int × (List Nat))) × Int) => s.1.1.1.1.1.1.1.1.2) 5 rfl) (tad_cons (td_bin (te_td (td_bin (te_td (td_k (k := D.int) (10 : Int))) (te_td (td_kMul (c := 9) (td_var (k := D.int) (f := fun s : (((((((((((((((List Int) × ((List Nat) × Unit)) × Int) × Int) × Int) × (Int × Int)) × Int) × Int) × Int) × (List (List Nat))) × (Int × (List (List Nat)))) × Int) × (List Nat)) × (Int × (List Nat))) × Int) => s.1.1.1.2) 9 rfl))) o_add)) (te_td (td_var (k := D.int) (f := fun s : (((((((((((((((List Int) × ((List Nat) × Unit)) × Int) × Int) × Int) × (Int × Int)) × Int) × Int) × Int) × (List (List Nat))) × (Int × (List (List Nat)))) × Int) × (List Nat)) × (Int × (List Nat))) × Int) => s.2) 14 rfl)) o_add) tad_nil)) tf__law_draw)
    (tb_ifJ (Y := (Int × Int)) (δ := [.val (fun t : (((((((((((((((((List Int) × ((List Nat) × Unit)) × Int) × Int) × Int) × (Int × Int)) × Int) × Int) × Int) × (List (List Nat))) × (Int × (List (List Nat)))) × Int) × (List Nat)) × (Int × (List Nat))) × Int) × Int) × (Int × Int)) => kScr t.1.1.1.1.1.1.1.1.1.1.1.1.1.1.1.1), .val (fun t : (((((((((((((((((List Int) × ((List Nat) × Unit)) × Int) × Int) × Int) × (Int × Int)) × Int) × Int) × Int) × (List (List Nat))) × (Int × (List (List Nat)))) × Int) × (List Nat)) × (Int × (List Nat))) × Int) × Int) × (Int × Int)) => D.str t.1.1.1.1.1.1.1.1.1.1.1.1.1.1.1.2.1), .val (fun t : (((((((((((((((((List Int) × ((List Nat) × Unit)) × Int) × Int) × Int) × (Int × Int)) × Int) × Int) × Int) × (List (List Nat))) × (Int × (List (List Nat)))) × Int) × (List Nat)) × (Int × (List Nat))) × Int) × Int) × (Int × Int)) => D.int t.1.1.1.1.1.1.1.1.1.1.1.1.1.1.2), .val (fun t : (((((((((((((((((List Int) × ((List Nat) × Unit)) × Int) × Int) × Int) × (Int × Int)) × Int) × Int) × Int) × (List (List Nat))) × (Int × (List (List Nat)))) × Int) × (List Nat)) × (Int × (List Nat))) × Int) × Int) × (Int × Int)) => D.int t.1.1.1.1.1.1.1.1.1.1.1.2.1), .val (fun t : (((((((((((((((((List Int) × ((List Nat) × Unit)) × Int) × Int) × Int) × (Int × Int)) × Int) × Int) × Int) × (List (List Nat))) × (Int × (List (List Nat)))) × Int) × (List Nat)) × (Int × (List Nat))) × Int) × Int) × (Int × Int)) => D.int t.1.1.1.1.1.1.1.1.1.1.1.2.2), .val (fun t : (((((((((((((((((List Int) × ((List Nat) × Unit)) × Int) × Int) × Int) × (Int × Int)) × Int) × Int) × Int) × (List (List Nat))) × (Int × (List (List Nat)))) × Int) × (List Nat)) × (Int × (List Nat))) × Int) × Int) × (Int × Int)) => D.int t.1.1.1.1.1.1.1.1.1.1.2), .val (fun t : (((((((((((((((((List Int) × ((List Nat) × Unit)) × Int) × Int) × Int) × (Int × Int)) × Int) × Int) × Int) × (List (List Nat))) × (Int × (List (List Nat)))) × Int) × (List Nat)) × (Int × (List Nat))) × Int) × Int) × (Int × Int)) => D.int t.1.1.1.1.1.1.1.1.1.2), .val (fun t : (((((((((((((((((List Int) × ((List Nat) × Unit)) × Int) × Int) × Int) × (Int × Int)) × Int) × Int) × Int) × (List (List Nat))) × (Int × (List (List Nat)))) × Int) × (List Nat)) × (Int × (List Nat))) × Int) × Int) × (Int × Int)) => D.int t.2.1), .cel (some n_197) (fun t : (((((((((((((((((List Int) × ((List Nat) × Unit)) × Int) × Int) × Int) × (Int × Int)) × Int) × Int) × Int) × (List (List Nat))) × (Int × (List (List Nat)))) × Int) × (List Nat)) × (Int × (List Nat))) × Int) × Int) × (Int × Int)) => (kLs D.str) t.1.1.1.1.1.1.2.2), .val (fun t : (((((((((((((((((List Int) × ((List Nat) × Unit)) × Int) × Int) × Int) × (Int × Int)) × Int) × Int) × Int) × (List (List Nat))) × (Int × (List (List Nat)))) × Int) × (List Nat)) × (Int × (List Nat))) × Int) × Int) × (Int × Int)) => D.int t.1.1.1.1.1.2), .un, .un, .un, .val (fun t : (((((((((((((((((List Int) × ((List Nat) × Unit)) × Int) × Int) × Int) × (Int × Int)) × Int) × Int) × Int) × (List (List Nat))) × (Int × (List (List Nat)))) × Int) × (List Nat)) × (Int × (List Nat))) × Int) × Int) × (Int × Int)) => D.str t.1.1.1.2.2), .val (fun t : (((((((((((((((((List Int) × ((List Nat) × Unit)) × Int) × Int) × Int) × (Int × Int)) × Int) × Int) × Int) × (List (List Nat))) × (Int × (List (List Nat)))) × Int) × (List Nat)) × (Int × (List Nat))) × Int) × Int) × (Int × Int)) => D.int t.1.1.2), .val (fun t : (((((((((((((((((List Int) × ((List Nat) × Unit)) × Int) × Int) × Int) × (Int × Int)) × Int) × Int) × Int) × (List (List Nat))) × (Int × (List (List Nat)))) × Int) × (List Nat)) × (Int × (List Nat))) × Int) × Int) × (Int × Int)) => D.int t.2.2)]) (tt_val (k := D.bl) (td_bin (te_td (td_modK (c := 2) (td_divK (c := 8) (td_var (k := D.int) (f := fun s : ((((((((((((((((List Int) × ((List Nat) × Unit)) × Int) × Int) × Int) × (Int × Int)) × Int) × Int) × Int) × (List (List Nat))) × (Int × (List (List Nat)))) × Int) × (List Nat)) × (Int × (List Nat))) × Int) × Int) => s.1.1.1.1.1.1.1.1.1.2) 5 rfl)))) (te_td (td_k (k := D.int) (1 : Int))) (o_eq (k := D.int))))
    (tb_set (k := D.int) 15 (td_modK (c := 2000) (td_var (k := D.int) (f := fun s : ((((((((((((((((List Int) × ((List Nat) × Unit)) × Int) × Int) × Int) × (Int × Int)) × Int) × Int) × Int) × (List (List Nat))) × (Int × (List (List Nat)))) × Int) × (List Nat)) × (Int × (List Nat))) × Int) × Int) => s.1.1.2.1) 7 rfl))
    (tb_last (tb_set (k := D.int) 7 (td_divK (c := 2000) (td_var (k := D.int) (f := fun s : (((((((((((((((((List Int) × ((List Nat) × Unit)) × Int) × Int) × Int) × (Int × Int)) × Int) × Int) × Int) × (List (List Nat))) × (Int × (List (List Nat)))) × Int) × (List Nat)) × (Int × (List Nat))) × Int) × Int) × Int) => s.1.1.1.2.1) 7 rfl))
    (tb_end (fun s : ((((((((((((((((((List Int) × ((List Nat) × Unit)) × Int) × Int) × Int) × (Int × Int)) × Int) × Int) × Int) × (List (List Nat))) × (Int × (List (List Nat)))) × Int) × (List Nat)) × (Int × (List Nat))) × Int) × Int) × Int) × Int) => (s.2, s.1.2)) (fun s e μ E => Enc.wk (p := fun s : ((((((((((((((((((List Int) × ((List Nat) × Unit)) × Int) × Int) × Int) × (Int × Int)) × Int) × Int) × Int) × (List (List Nat))) × (Int × (List (List Nat)))) × Int) × (List Nat)) × (Int × (List Nat))) × Int) × Int) × Int) × Int) => (s.1.1, (s.2, s.1.2))) (by exact ⟨(fun _ => rfl), ⟨(fun _ => rfl), ⟨(fun _ => rfl), ⟨(fun _ => rfl), ⟨(fun _ => rfl), ⟨(fun _ => rfl), ⟨(fun _ => rfl), ⟨(fun _ => rfl), ⟨⟨rfl, fun _ => rfl⟩, ⟨(fun _ => rfl), ⟨trivial, ⟨trivial, ⟨trivial, ⟨(fun _ => rfl), ⟨(fun _ => rfl), ⟨(fun _ => rfl), trivial⟩⟩⟩⟩⟩⟩⟩⟩⟩⟩⟩⟩⟩⟩⟩⟩) E)) (fun _ _ _ _ _ => trivial))) (fun _ _ _ _ _ => trivial))
    (tb_end (fun s : ((((((((((((((((List Int) × ((List Nat) × Unit)) × Int) × Int) × Int) × (Int × Int)) × Int) × Int) × Int) × (List (List Nat))) × (Int × (List (List Nat)))) × Int) × (List Nat)) × (Int × (List Nat))) × Int) × Int) => (s.1.1.2.1, s.2)) (fun s e μ E => Enc.wk (p := fun s : ((((((((((((((((List Int) × ((List Nat) × Unit)) × Int) × Int) × Int) × (Int × Int)) × Int) × Int) × Int) × (List (List Nat))) × (Int × (List (List Nat)))) × Int) × (List Nat)) × (Int × (List Nat))) × Int) × Int) => (s, (s.1.1.2.1, s.2))) (by exact ⟨(fun _ => rfl), ⟨(fun _ => rfl), ⟨(fun _ => rfl), ⟨(fun _ => rfl), ⟨(fun _ => rfl), ⟨(fun _ => rfl), ⟨(fun _ => rfl), ⟨(fun _ => rfl), ⟨⟨rfl, fun _ => rfl⟩, ⟨(fun _ => rfl), ⟨trivial, ⟨trivial, ⟨trivial, ⟨(fun _ => rfl), ⟨(fun _ => rfl), ⟨(fun _ => rfl), trivial⟩⟩⟩⟩⟩⟩⟩⟩⟩⟩⟩⟩⟩⟩⟩⟩) E))
    (tb_if (tt_val (k := D.bl) (td_bin (te_td (td_modK (c := 6) (td_var (k := D.int) (f := fun s : (((((((((((((((((List Int) × ((List Nat) × Unit)) × Int) × Int) × Int) × (Int × Int)) × Int) × Int) × Int) × (List (List Nat))) × (Int × (List (List Nat)))) × Int) × (List Nat)) × (Int × (List Nat))) × Int) × Int) × (Int × Int)) => s.2.2) 15 rfl))) (te_td (td_var (k := D.int) (f := fun s : (((((((((((((((((List Int) × ((List Nat) × Unit)) × Int) × Int) × Int) × (Int × Int)) × Int) × Int) × Int) × (List (List Nat))) × (Int × (List (List Nat)))) × Int) × (List Nat)) × (Int × (List Nat))) × Int) × Int) × (Int × Int)) => s.1.1.1.1.1.1.1.1.1.2) 6 rfl)) (o_lt)))
    (tb_last (tb_set (k := D.str) 13 (td_bin (te_td (td_var (k := D.str) (f := fun s : (((((((((((((((((List Int) × ((List Nat) × Unit)) × Int) × Int) × Int) × (Int × Int)) × Int) × Int) × Int) × (List (List Nat))) × (Int × (List (List Nat)))) × Int) × (List Nat)) × (Int × (List Nat))) × Int) × Int) × (Int × Int)) => s.1.1.1.2.2) 13 rfl)) (te_td (td_call (tad_cons (td_divK (c := 6) (td_var (k := D.int) (f := fun s : (((((((((((((((((List Int) × ((List Nat) × Unit)) × Int) × Int) × Int) × (Int × Int)) × Int) × Int) × Int) × (List (List Nat))) × (Int × (List (List Nat)))) × Int) × (List Nat)) × (Int × (List Nat))) × Int) × Int) × (Int × Int)) => s.2.2) 15 rfl)) (tad_cons (td_var (k := D.str) (f := fun s : (((((((((((((((((List Int) × ((List Nat) × Unit)) × Int) × Int) × Int) × (Int × Int)) × Int) × Int) × Int) × (List (List Nat))) × (Int × (List (List Nat)))) × Int) × (List Nat)) × (Int × (List Nat))) × Int) × Int) × (Int × Int)) => s.1.1.1.1.1.1.1.1.1.1.1.1.1.1.1.2.1) 1 rfl) tad_nil)) tf__law_sign)) o_addS)
    (tb_end (fun s : ((((((((((((((((((List Int) × ((List Nat) × Unit)) × Int) × Int) × Int) × (Int × Int)) × Int) × Int) × Int) × (List (List Nat))) × (Int × (List (List Nat)))) × Int) × (List Nat)) × (Int × (List Nat))) × Int) × Int) × (Int × Int)) × (List Nat)) => (s.1.2.1, s.2)) (fun s e μ E => Enc.wk (p := fun s : ((((((((((((((((((List Int) × ((List Nat) × Unit)) × Int) × Int) × Int) × (Int × Int)) × Int) × Int) × Int) × (List (List Nat))) × (Int × (List (List Nat)))) × Int) × (List Nat)) × (Int × (List Nat))) × Int) × Int) × (Int × Int)) × (List Nat)) => (s.1.1.1.1.1, (s.1.2.1, s.2))) (by exact ⟨(fun _ => rfl), ⟨(fun _ => rfl), ⟨(fun _ => rfl), ⟨(fun _ => rfl), ⟨(fun _ => rfl), ⟨(fun _ => rfl), ⟨(fun _ => rfl), ⟨(fun _ => rfl), ⟨⟨rfl, fun _ => rfl⟩, ⟨(fun _ => rfl), ⟨trivial, ⟨trivial, ⟨trivial, ⟨(fun _ => rfl), ⟨trivial, ⟨trivial, trivial⟩⟩⟩⟩⟩⟩⟩⟩⟩⟩⟩⟩⟩⟩⟩⟩) E)) (fun _ _ _ _ _ => trivial)))
    (tb_last (tb_set (k := D.str) 13 (td_bin (te_td (td_var (k := D.str) (f := fun s : (((((((((((((((((List Int) × ((List Nat) × Unit)) × Int) × Int) × Int) × (Int × Int)) × Int) × Int) × Int) × (List (List Nat))) × (Int × (List (List Nat)))) × Int) × (List Nat)) × (Int × (List Nat))) × Int) × Int) × (Int × Int)) => s.1.1.1.2.2) 13 rfl)) (te_td (td_k (k := D.str) ([46] : List Nat))) o_addS)
    (tb_end (fun s : ((((((((((((((((((List Int) × ((List Nat) × Unit)) × Int) × Int) × Int) × (Int × Int)) × Int) × Int) × Int) × (List (List Nat))) × (Int × (List (List Nat)))) × Int) × (List Nat)) × (Int × (List Nat))) × Int) × Int) × (Int × Int)) × (List Nat)) => (s.1.2.1, s.2)) (fun s e μ E => Enc.wk (p := fun s : ((((((((((((((((((List Int) × ((List Nat) × Unit)) × Int) × Int) × Int) × (Int × Int)) × Int) × Int) × Int) × (List (List Nat))) × (Int × (List (List Nat)))) × Int) × (List Nat)) × (Int × (List Nat))) × Int) × Int) × (Int × Int)) × (List Nat)) => (s.1.1.1.1.1, (s.1.2.1, s.2))) (by exact ⟨(fun _ => rfl), ⟨(fun _ => rfl), ⟨(fun _ => rfl), ⟨(fun _ => rfl), ⟨(fun _ => rfl), ⟨(fun _ => rfl), ⟨(fun _ => rfl), ⟨(fun _ => rfl), ⟨⟨rfl, fun _ => rfl⟩, ⟨(fun _ => rfl), ⟨trivial, ⟨trivial, ⟨trivial, ⟨(fun _ => rfl), ⟨trivial, ⟨trivial, trivial⟩⟩⟩⟩⟩⟩⟩⟩⟩⟩⟩⟩⟩⟩⟩⟩) E)) (fun _ _ _ _ _ => trivial))) (fun _ _ _ _ _ => trivial)) (fun _ _ _ _ _ => trivial)) (fun _ _ _ _ _ => trivial))
    (tb_last (tb_mutD (kc := (kLs D.str)) (f := fun s : ((((((((((((((List Int) × ((List Nat) × Unit)) × Int) × Int) × Int) × (Int × Int)) × Int) × Int) × Int) × (List (List Nat))) × (Int × (List (List Nat)))) × Int) × (List Nat)) × (Int × (List Nat))) => s.1.1.1.2.2) 8 rfl (tad_cons (td_var (k := D.str) (f := fun s : ((((((((((((((List Int) × ((List Nat) × Unit)) × Int) × Int) × Int) × (Int × Int)) × Int) × Int) × Int) × (List (List Nat))) × (Int × (List (List Nat)))) × Int) × (List Nat)) × (Int × (List Nat))) => s.2.2) 13 rfl) tad_nil) ct_lst (o_appendD (k := D.str))
    (tb_end (fun s : (((((((((((((((List Int) × ((List Nat) × Unit)) × Int) × Int) × Int) × (Int × Int)) × Int) × Int) × Int) × (List (List Nat))) × (Int × (List (List Nat)))) × Int) × (List Nat)) × (Int × (List Nat))) × (List (List Nat))) => (s.1.2.1, s.2)) (fun s e μ E => Enc.wk (p := fun s : (((((((((((((((List Int) × ((List Nat) × Unit)) × Int) × Int) × Int) × (Int × Int)) × Int) × Int) × Int) × (List (List Nat))) × (Int × (List (List Nat)))) × Int) × (List Nat)) × (Int × (List Nat))) × (List (List Nat))) => (s.1.1.1.1.1, (s.1.2.1, s.2))) (by exact ⟨(fun _ => rfl), ⟨(fun _ => rfl), ⟨(fun _ => rfl), ⟨(fun _ => rfl), ⟨(fun _ => rfl), ⟨(fun _ => rfl), ⟨(fun _ => rfl), ⟨(fun _ => rfl), ⟨⟨rfl, fun _ => rfl⟩, ⟨trivial, ⟨trivial, ⟨trivial, ⟨trivial, ⟨trivial, ⟨trivial, ⟨trivial, trivial⟩⟩⟩⟩⟩⟩⟩⟩⟩⟩⟩⟩⟩⟩⟩⟩) E)) (fun _ _ _ _ _ => trivial))) (fun _ _ _ _ _ => trivial)) (fun _ _ _ _ _ => trivial))
    (tb_set (k := D.int) 10 (td_bin (te_td (td_divK (c := 7) (td_var (k := D.int) (f := fun s : (((((((((((List Int) × ((List Nat) × Unit)) × Int) × Int) × Int) × (Int × Int)) × Int) × Int) × Int) × (List (List Nat))) × (Int × (List (List Nat)))) => s.1.1.1.1.1.1.1.1.2) 2 rfl))) (te_td (td_bin (te_td (td_var (k := D.int) (f := fun s : (((((((((((List Int) × ((List Nat) × Unit)) × Int) × Int) × Int) × (Int × Int)) × Int) × Int) × Int) × (List (List Nat))) × (Int × (List (List Nat)))) => s.1.1.1.1.1.2.1) 3 rfl)) (te_td (td_var (k := D.int) (f := fun s : (((((((((((List Int) × ((List Nat) × Unit)) × Int) × Int) × Int) × (Int × Int)) × Int) × Int) × Int) × (List (List Nat))) × (Int × (List (List Nat)))) => s.1.1.1.1.1.2.2) 4 rfl)) o_mul)) o_mod)
    (tb_set (k := D.int) 9 (td_bin (te_td (td_var (k := D.int) (f := fun s : ((((((((((((List Int) × ((List Nat) × Unit)) × Int) × Int) × Int) × (Int × Int)) × Int) × Int) × Int) × (List (List Nat))) × (Int × (List (List Nat)))) × Int) => s.2) 10 rfl)) (te_td (td_var (k := D.int) (f := fun s : ((((((((((((List Int) × ((List Nat) × Unit)) × Int) × Int) × Int) × (Int × Int)) × Int) × Int) × Int) × (List (List Nat))) × (Int × (List (List Nat)))) × Int) => s.1.1.1.1.1.1.2.2) 4 rfl)) o_div)
    (tb_set (k := D.str) 11 (td_bin (te_cel (k := (kLs D.str)) (f := fun s : (((((((((((((List Int) × ((List Nat) × Unit)) × Int) × Int) × Int) × (Int × Int)) × Int) × Int) × Int) × (List (List Nat))) × (Int × (List (List Nat)))) × Int) × Int) => s.1.1.2.2) 8 rfl) (te_td (td_var (k := D.int) (f := fun s : (((((((((((((List Int) × ((List Nat) × Unit)) × Int) × Int) × Int) × (Int × Int)) × Int) × Int) × Int) × (List (List Nat))) × (Int × (List (List Nat)))) × Int) × Int) => s.2) 9 rfl)) o_ixL)
    (tb_set (k := D.int) 12 (td_bin (te_td (td_var (k := D.int) (f := fun s : ((((((((((((((List Int) × ((List Nat) × Unit)) × Int) × Int) × Int) × (Int × Int)) × Int) × Int) × Int) × (List (List Nat))) × (Int × (List (List Nat)))) × Int) × Int) × (List Nat)) => s.1.1.2) 10 rfl)) (te_td (td_var (k := D.int) (f := fun s : ((((((((((((((List Int) × ((List Nat) × Unit)) × Int) × Int) × Int) × (Int × Int)) × Int) × Int) × Int) × (List (List Nat))) × (Int × (List (List Nat)))) × Int) × Int) × (List Nat)) => s.1.1.1.1.1.1.1.1.2.2) 4 rfl)) o_mod)
    (tb_st (kc := (kLs D.str)) (f := fun s : (((((((((((((((List Int) × ((List Nat) × Unit)) × Int) × Int) × Int) × (Int × Int)) × Int) × Int) × Int) × (List (List Nat))) × (Int × (List (List Nat)))) × Int) × Int) × (List Nat)) × Int) => s.1.1.1.1.2.2) 8 rfl (td_bin (te_td (td_bin (te_td (td_slS (td_var (k := D.str) (f := fun s : (((((((((((((((List Int) × ((List Nat) × Unit)) × Int) × Int) × Int) × (Int × Int)) × Int) × Int) × Int) × (List (List Nat))) × (Int × (List (List Nat)))) × Int) × Int) × (List Nat)) × Int) => s.1.2) 11 rfl) to_none (to_some (td_var (k := D.int) (f := fun s : (((((((((((((((List Int) × ((List Nat) × Unit)) × Int) × Int) × Int) × (Int × Int)) × Int) × Int) × Int) × (List (List Nat))) × (Int × (List (List Nat)))) × Int) × Int) × (List Nat)) × Int) => s.2) 12 rfl)))) (te_td (td_k (k := D.str) ([46] : List Nat))) o_addS)) (te_td (td_slS (td_var (k := D.str) (f := fun s : (((((((((((((((List Int) × ((List Nat) × Unit)) × Int) × Int) × Int) × (Int × Int)) × Int) × Int) × Int) × (List (List Nat))) × (Int × (List (List Nat)))) × Int) × Int) × (List Nat)) × Int) => s.1.2) 11 rfl) (to_some (td_bin (te_td (td_var (k := D.int) (f := fun s : (((((((((((((((List Int) × ((List Nat) × Unit)) × Int) × Int) × Int) × (Int × Int)) × Int) × Int) × Int) × (List (List Nat))) × (Int × (List (List Nat)))) × Int) × Int) × (List Nat)) × Int) => s.2) 12 rfl)) (te_td (td_k (k := D.int) (1 : Int))) o_add)) to_none)) o_addS) (td_var (k := D.int) (f := fun s : (((((((((((((((List Int) × ((List Nat) × Unit)) × Int) × Int) × Int) × (Int × Int)) × Int) × Int) × Int) × (List (List Nat))) × (Int × (List (List Nat)))) × Int) × Int) × (List Nat)) × Int) => s.1.1.2) 9 rfl) (o_setL)
    (tb_retD (td_fn (ta_cons (te_cel (k := (kLs D.str)) (f := fun s : ((((((((((((((((List Int) × ((List Nat) × Unit)) × Int) × Int) × Int) × (Int × Int)) × Int) × Int) × Int) × (List (List Nat))) × (Int × (List (List Nat)))) × Int) × Int) × (List Nat)) × Int) × (List (List Nat))) => s.2) 8 rfl) ta_nil) (o_tupleL (k := D.str))) qr_f (fun _ _ _ _ _ => trivial)) (fun _ _ _ _ _ => trivial)) (fun _ _ _ _ _ => trivial)) (fun _ _ _ _ _ => trivial)) (fun _ _ _ _ _ => trivial)) (fun _ _ _ _ _ => trivial)) (fun _ _ _ _ _ => trivial))) (fun _ _ _ _ _ => trivial)) (fun _ _ _ _ _ => trivial)) (fun _ _ _ _ _ => trivial)) (fun _ _ _ _ _ => trivial)) (fun _ _ _ _ _ => trivial)) (fun _ _ _ _ _ => trivial)) (fun _ _ _ _ _ => trivial)) (fun _ _ _ _ _ => trivial)), fun a => by simp only [t__law_rows, R.bind_ok]⟩
noncomputable def t__law_is_near (a_rows_here : (List (List Nat))) (a_row : Int) (a_column : Int) : R Bool := R.fin (N := Unit) (L := Unit) (ρ := Bool)
    (R.seq (ρ := Bool) (forR (ρ := Bool) ([((a_row - (1 : Int)), a_column), (a_row, (a_column - (1 : Int))), (a_row, (a_column + (1 : Int))), ((a_row + (1 : Int)), a_column)] : List (Int × Int)) () fun (l231 : (Unit)) (there_232 : (Int × Int)) =>
    (R.bind (if ((decide ((0 : Int) ≤ there_232.1)) && (decide (there_232.1 < ((a_rows_here.length : Nat) : Int)))) then (R.bind (if (decide ((0 : Int) ≤ there_232.2)) then (R.bind (R.bind (atR a_rows_here (0 : Int)) fun x233 => R.ok ((x233.length : Nat) : Int)) fun x235 => R.ok (decide (there_232.2 < x235))) else R.ok false) fun x241 => (if x241 then (R.bind (R.bind (atR a_rows_here there_232.1) fun x237 => (R.bind (atR x237 there_232.2) fun c => R.ok [c])) fun x239 => R.ok (!decide (x239 = ([46] : List Nat)))) else R.ok false)) else R.ok false) fun x243 => if x243 then (R.ok (.rt true))
    else (R.ok (.nx ())))) fun l244 =>
    (R.ok (.rt false)))
theorem tf__law_is_near : TF true false (fun a : ((List (List Nat)) × (Int × (Int × Unit))) => [(kTp D.str) a.1, D.int a.2.1, D.int a.2.2.1]) D.bl F__law_is_near (fun a => t__law_is_near a.1 a.2.1 a.2.2.1) := by
  unfold F__law_is_near m__law_is_near m__law_is_near_b0
  refine tf_mk4 (n := 4) (fs := [fun a : ((List (List Nat)) × (Int × (Int × Unit))) => (kTp D.str) a.1, fun a : ((List (List Nat)) × (Int × (Int × Unit))) => D.int a.2.1, fun a : ((List (List Nat)) × (Int × (Int × Unit))) => D.int a.2.2.1]) (r := 1) (Qn := fun _ (_ : Unit) _ _ => True) (Ql := fun _ (_ : Unit) _ _ => True) (Qx := fun _ _ _ => True) ?hk ?h
  case hk => exact fun _ => rfl
  case h => exact ⟨_, (tb_for (L' := (Unit)) (δ := [.val (fun t : (((List (List Nat)) × (Int × (Int × Unit))) × (Unit)) => (kTp D.str) t.1.1), .val (fun t : (((List (List Nat)) × (Int × (Int × Unit))) × (Unit)) => D.int t.1.2.1), .val (fun t : (((List (List Nat)) × (Int × (Int × Unit))) × (Unit)) => D.int t.1.2.2.1), .un]) (kx := (kT2 D.int D.int)) (ws := [(3, fun v : (Int × Int) => (kT2 D.int D.int) v)]) (fun s : ((List (List Nat)) × (Int × (Int × Unit))) => ()) (ti_lst (td_lst (k := (kLs (kT2 D.int D.int))) (fun a : ((Int × Int) × ((Int × Int) × ((Int × Int) × ((Int × Int) × Unit)))) => ([a.1, a.2.1, a.2.2.1, a.2.2.2.1] : List (Int × Int))) (tad_cons (td_tup (k := (kT2 D.int D.int)) (fun a : (Int × (Int × Unit)) => (a.1, a.2.1)) (tad_cons (td_bin (te_td (td_var (k := D.int) (f := fun s : ((List (List Nat)) × (Int × (Int × Unit))) => s.2.1) 1 rfl)) (te_td (td_k (k := D.int) (1 : Int))) o_sub) (tad_cons (td_var (k := D.int) (f := fun s : ((List (List Nat)) × (Int × (Int × Unit))) => s.2.2.1) 2 rfl) tad_nil))) (tad_cons (td_tup (k := (kT2 D.int D.int)) (fun a : (Int × (Int × Unit)) => (a.1, a.2.1)) (tad_cons (td_var (k := D.int) (f := fun s : ((List (List Nat)) × (Int × (Int × Unit))) => s.2.1) 1 rfl) (tad_cons (td_bin (te_td (td_var (k := D.int) (f := fun s : ((List (List Nat)) × (Int × (Int × Unit))) => s.2.2.1) 2 rfl)) (te_td (td_k (k := D.int) (1 : Int))) o_sub) tad_nil))) (tad_cons (td_tup (k := (kT2 D.int D.int)) (fun a : (Int × (Int × Unit)) => (a.1, a.2.1)) (tad_cons (td_var (k := D.int) (f := fun s : ((List (List Nat)) × (Int × (Int × Unit))) => s.2.1) 1 rfl) (tad_cons (td_bin (te_td (td_var (k := D.int) (f := fun s : ((List (List Nat)) × (Int × (Int × Unit))) => s.2.2.1) 2 rfl)) (te_td (td_k (k := D.int) (1 : Int))) o_add) tad_nil))) (tad_cons (td_tup (k := (kT2 D.int D.int)) (fun a : (Int × (Int × Unit)) => (a.1, a.2.1)) (tad_cons (td_bin (te_td (td_var (k := D.int) (f := fun s : ((List (List Nat)) × (Int × (Int × Unit))) => s.2.1) 1 rfl)) (te_td (td_k (k := D.int) (1 : Int))) o_add) (tad_cons (td_var (k := D.int) (f := fun s : ((List (List Nat)) × (Int × (Int × Unit))) => s.2.2.1) 2 rfl) tad_nil))) tad_nil)))))) (fun _ _ => rfl) (by exact ⟨(fun _ => rfl), ⟨(fun _ => rfl), ⟨(fun _ => rfl), ⟨trivial, trivial⟩⟩⟩⟩)
    (tb_if (tt_and (tt_val (k := D.bl) (td_chP (op := fun a b => (decide (a ≤ b))) (op2 := fun a b => (decide (a < b))) (fun s : ((((List (List Nat)) × (Int × (Int × Unit))) × (Unit)) × (Int × Int)) => (0 : Int)) (fun s : ((((List (List Nat)) × (Int × (Int × Unit))) × (Unit)) × (Int × Int)) => s.2.1) (fun s : ((((List (List Nat)) × (Int × (Int × Unit))) × (Unit)) × (Int × Int)) => ((s.1.1.1.length : Nat) : Int)) (te_td (td_k (k := D.int) (0 : Int))) (te_td (td_prj (k := (kT2 D.int D.int)) (l := D.int) (i := 0) (fun a : (Int × Int) => a.1) (td_var (k := (kT2 D.int D.int)) (f := fun s : ((((List (List Nat)) × (Int × (Int × Unit))) × (Unit)) × (Int × Int)) => s.2) 3 rfl))) (te_td (td_fn (ta_cons (te_td (td_var (k := (kTp D.str)) (f := fun s : ((((List (List Nat)) × (Int × (Int × Unit))) × (Unit)) × (Int × Int)) => s.1.1.1) 0 rfl)) ta_nil) (o_lenT (k := D.str)))) (o_le) (o_lt))) (tt_and (tt_val (k := D.bl) (td_ch (te_td (td_k (k := D.int) (0 : Int))) (te_td (td_prj (k := (kT2 D.int D.int)) (l := D.int) (i := 1) (fun a : (Int × Int) => a.2) (td_var (k := (kT2 D.int D.int)) (f := fun s : ((((List (List Nat)) × (Int × (Int × Unit))) × (Unit)) × (Int × Int)) => s.2) 3 rfl))) (te_td (td_fn (ta_cons (te_td (td_bin (te_td (td_var (k := (kTp D.str)) (f := fun s : ((((List (List Nat)) × (Int × (Int × Unit))) × (Unit)) × (Int × Int)) => s.1.1.1) 0 rfl)) (te_td (td_k (k := D.int) (0 : Int))) o_ixT)) ta_nil) (o_lenS))) (o_le) (o_lt))) (tt_val (k := D.bl) (td_bin (te_td (td_bin (te_td (td_bin (te_td (td_var (k := (kTp D.str)) (f := fun s : ((((List (List Nat)) × (Int × (Int × Unit))) × (Unit)) × (Int × Int)) => s.1.1.1) 0 rfl)) (te_td (td_prj (k := (kT2 D.int D.int)) (l := D.int) (i := 0) (fun a : (Int × Int) => a.1) (td_var (k := (kT2 D.int D.int)) (f := fun s : ((((List (List Nat)) × (Int × (Int × Unit))) × (Unit)) × (Int × Int)) => s.2) 3 rfl))) o_ixT)) (te_td (td_prj (k := (kT2 D.int D.int)) (l := D.int) (i := 1) (fun a : (Int × Int) => a.2) (td_var (k := (kT2 D.int D.int)) (f := fun s : ((((List (List Nat)) × (Int × (Int × Unit))) × (Unit)) × (Int × Int)) => s.2) 3 rfl))) o_ixS)) (te_td (td_k (k := D.str) ([46] : List Nat))) (o_ne (k := D.str))))))
    (tb_retD (td_k (k := D.bl) true) qr_f (fun _ _ _ _ _ => trivial))
    (tb_end (fun s : ((((List (List Nat)) × (Int × (Int × Unit))) × (Unit)) × (Int × Int)) => ()) (fun s e μ E => Enc.wk (p := fun s : ((((List (List Nat)) × (Int × (Int × Unit))) × (Unit)) × (Int × Int)) => (s.1.1, ())) (by exact ⟨(fun _ => rfl), ⟨(fun _ => rfl), ⟨(fun _ => rfl), ⟨trivial, trivial⟩⟩⟩⟩) E)) (fun _ _ _ _ _ => trivial))
    (tb_retD (td_k (k := D.bl) false) qr_f (fun _ _ _ _ _ => trivial)) (fun _ _ _ _ _ => trivial)), fun a => by simp only [t__law_is_near, R.bind_ok]⟩
noncomputable def t__law_starts (a_rows_here : (List (List Nat))) (a_cell : Int) : R (Int × Int) := R.fin (N := Unit) (L := Unit) (ρ := (Int × Int))
    (R.bind (R.ok ([] : List (Int × Int))) fun free_245 =>
    (R.bind (R.ok ([] : List (Int × Int))) fun near_247 =>
    (R.bind (rg1 ((a_rows_here.length : Nat) : Int)) fun xs276 => R.seq (ρ := (Int × Int)) (forR (ρ := (Int × Int)) xs276 (free_245, near_247) fun (l250 : ((List (Int × Int)) × (List (Int × Int)))) (row_251 : Int) =>
    (R.bind (R.bind (R.bind (atR a_rows_here (0 : Int)) fun x252 => R.ok ((x252.length : Nat) : Int)) fun x254 => (rg1 x254)) fun xs268 => R.seq (ρ := (Int × Int)) (forR (ρ := (Int × Int)) xs268 (l250.1, l250.2) fun (l257 : ((List (Int × Int)) × (List (Int × Int)))) (column_258 : Int) =>
    (R.bind (R.bind (R.bind (atR a_rows_here row_251) fun x259 => (R.bind (atR x259 column_258) fun c => R.ok [c])) fun x261 => R.ok (decide (x261 = ([46] : List Nat)))) fun x266 => if x266 then (R.bind ((appR l257.1 (row_251, column_258))) fun free_263 =>
    (R.bind (t__law_is_near a_rows_here row_251 column_258) fun x265 => if x265 then (R.bind ((appR l257.2 (row_251, column_258))) fun near_264 =>
    (R.ok (.nx (free_263, near_264))))
    else (R.ok (.nx (free_263, l257.2)))))
    else (R.ok (.nx (l257.1, l257.2))))) fun l267 =>
    (R.ok (.nx (l267.1, l267.2))))) fun l269 =>
    (if ((!decide (l269.2 = ([] : List (Int × Int)))) && (decide ((a_cell % (4 : Int)) > (0 : Int)))) then (R.bind (R.bind (imodR (a_cell / (4 : Int)) ((l269.2.length : Nat) : Int)) fun x270 => (atR l269.2 x270)) fun x272 => R.ok (.rt x272))
    else (R.bind (R.bind (imodR (a_cell / (4 : Int)) ((l269.1.length : Nat) : Int)) fun x273 => (atR l269.1 x273)) fun x275 => R.ok (.rt x275))))))
theorem tf__law_starts : TF true false (fun a : ((List (List Nat)) × (Int × Unit)) => [(kTp D.str) a.1, D.int a.2.1]) (kT2 D.int D.int) F__law_starts (fun a => t__law_starts a.1 a.2.1) := by
  unfold F__law_starts m__law_starts m__law_starts_b1 m__law_starts_b0
  refine tf_mk4 (n := 6) (fs := [fun a : ((List (List Nat)) × (Int × Unit)) => (kTp D.str) a.1, fun a : ((List (List Nat)) × (Int × Unit)) => D.int a.2.1]) (r := 4) (Qn := fun _ (_ : Unit) _ _ => True) (Ql := fun _ (_ : Unit) _ _ => True) (Qx := fun _ _ _ => True) ?hk ?h
  case hk => exact fun _ => rfl
  case h => exact ⟨_, (tb_setC (k := (kLs (kT2 D.int D.int))) 2 (tc_lst (k := (kLs (kT2 D.int D.int))) (fun a : Unit => ([] : List (Int × Int))) tad_nil) (fun n_246 =>
    (tb_setC (k := (kLs (kT2 D.int D.int))) 3 (tc_lst (k := (kLs (kT2 D.int D.int))) (fun a : Unit => ([] : List (Int × Int))) tad_nil) (fun n_248 =>
    (tb_for (L' := ((List (Int × Int)) × (List (Int × Int)))) (δ := [.val (fun t : (((((List (List Nat)) × (Int × Unit)) × (List (Int × Int))) × (List (Int × Int))) × ((List (Int × Int)) × (List (Int × Int)))) => (kTp D.str) t.1.1.1.1), .val (fun t : (((((List (List Nat)) × (Int × Unit)) × (List (Int × Int))) × (List (Int × Int))) × ((List (Int × Int)) × (List (Int × Int)))) => D.int t.1.1.1.2.1), .cel (some n_246) (fun t : (((((List (List Nat)) × (Int × Unit)) × (List (Int × Int))) × (List (Int × Int))) × ((List (Int × Int)) × (List (Int × Int)))) => (kLs (kT2 D.int D.int)) t.2.1), .cel (some n_248) (fun t : (((((List (List Nat)) × (Int × Unit)) × (List (Int × Int))) × (List (Int × Int))) × ((List (Int × Int)) × (List (Int × Int)))) => (kLs (kT2 D.int D.int)) t.2.2), .un, .un]) (kx := D.int) (ws := [(4, fun v : Int => D.int v)]) (fun s : ((((List (List Nat)) × (Int × Unit)) × (List (Int × Int))) × (List (Int × Int))) => (s.1.2, s.2)) (ti_range1 (td_fn (ta_cons (te_td (td_var (k := (kTp D.str)) (f := fun s : ((((List (List Nat)) × (Int × Unit)) × (List (Int × Int))) × (List (Int × Int))) => s.1.1.1) 0 rfl)) ta_nil) (o_lenT (k := D.str)))) (fun _ _ => rfl) (by exact ⟨(fun _ => rfl), ⟨(fun _ => rfl), ⟨⟨rfl, fun _ => rfl⟩, ⟨⟨rfl, fun _ => rfl⟩, ⟨trivial, ⟨trivial, trivial⟩⟩⟩⟩⟩⟩)
    (tb_last (tb_for (L' := ((List (Int × Int)) × (List (Int × Int)))) (δ := [.val (fun t : (((((((List (List Nat)) × (Int × Unit)) × (List (Int × Int))) × (List (Int × Int))) × ((List (Int × Int)) × (List (Int × Int)))) × Int) × ((List (Int × Int)) × (List (Int × Int)))) => (kTp D.str) t.1.1.1.1.1.1), .val (fun t : (((((((List (List Nat)) × (Int × Unit)) × (List (Int × Int))) × (List (Int × Int))) × ((List (Int × Int)) × (List (Int × Int)))) × Int) × ((List (Int × Int)) × (List (Int × Int)))) => D.int t.1.1.1.1.1.2.1), .cel (some n_246) (fun t : (((((((List (List Nat)) × (Int × Unit)) × (List (Int × Int))) × (List (Int × Int))) × ((List (Int × Int)) × (List (Int × Int)))) × Int) × ((List (Int × Int)) × (List (Int × Int)))) => (kLs (kT2 D.int D.int)) t.2.1), .cel (some n_248) (fun t : (((((((List (List Nat)) × (Int × Unit)) × (List (Int × Int))) × (List (Int × Int))) × ((List (Int × Int)) × (List (Int × Int)))) × Int) × ((List (Int × Int)) × (List (Int × Int)))) => (kLs (kT2 D.int D.int)) t.2.2), .val (fun t : (((((((List (List Nat)) × (Int × Unit)) × (List (Int × Int))) × (List (Int × Int))) × ((List (Int × Int)) × (List (Int × Int)))) × Int) × ((List (Int × Int)) × (List (Int × Int)))) => D.int t.1.2), .un]) (kx := D.int) (ws := [(5, fun v : Int => D.int v)]) (fun s : ((((((List (List Nat)) × (Int × Unit)) × (List (Int × Int))) × (List (Int × Int))) × ((List (Int × Int)) × (List (Int × Int)))) × Int) => (s.1.2.1, s.1.2.2)) (ti_range1 (td_fn (ta_cons (te_td (td_bin (te_td (td_var (k := (kTp D.str)) (f := fun s : ((((((List (List Nat)) × (Int × Unit)) × (List (Int × Int))) × (List (Int × Int))) × ((List (Int × Int)) × (List (Int × Int)))) × Int) => s.1.1.1.1.1) 0 rfl)) (te_td (td_k (k := D.int) (0 : Int))) o_ixT)) ta_nil) (o_lenS))) (fun _ _ => rfl) (by exact ⟨(fun _ => rfl), ⟨(fun _ => rfl), ⟨⟨rfl, fun _ => rfl⟩, ⟨⟨rfl, fun _ => rfl⟩, ⟨(fun _ => rfl), ⟨trivial, trivial⟩⟩⟩⟩⟩⟩)
    (tb_if (tt_val (k := D.bl) (td_bin (te_td (td_bin (te_td (td_bin (te_td (td_var (k := (kTp D.str)) (f := fun s : ((((((((List (List Nat)) × (Int × Unit)) × (List (Int × Int))) × (List (Int × Int))) × ((List (Int × Int)) × (List (Int × Int)))) × Int) × ((List (Int × Int)) × (List (Int × Int)))) × Int) => s.1.1.1.1.1.1.1) 0 rfl)) (te_td (td_var (k := D.int) (f := fun s : ((((((((List (List Nat)) × (Int × Unit)) × (List (Int × Int))) × (List (Int × Int))) × ((List (Int × Int)) × (List (Int × Int)))) × Int) × ((List (Int × Int)) × (List (Int × Int)))) × Int) => s.1.1.2) 4 rfl)) o_ixT)) (te_td (td_var (k := D.int) (f := fun s : ((((((((List (List Nat)) × (Int × Unit)) × (List (Int × Int))) × (List (Int × Int))) × ((List (Int × Int)) × (List (Int × Int)))) × Int) × ((List (Int × Int)) × (List (Int × Int)))) × Int) => s.2) 5 rfl)) o_ixS)) (te_td (td_k (k := D.str) ([46] : List Nat))) (o_eq (k := D.str))))
    (tb_mutD (kc := (kLs (kT2 D.int D.int))) (f := fun s : ((((((((List (List Nat)) × (Int × Unit)) × (List (Int × Int))) × (List (Int × Int))) × ((List (Int × Int)) × (List (Int × Int)))) × Int) × ((List (Int × Int)) × (List (Int × Int)))) × Int) => s.1.2.1) 2 rfl (tad_cons (td_tup (k := (kT2 D.int D.int)) (fun a : (Int × (Int × Unit)) => (a.1, a.2.1)) (tad_cons (td_var (k := D.int) (f := fun s : ((((((((List (List Nat)) × (Int × Unit)) × (List (Int × Int))) × (List (Int × Int))) × ((List (Int × Int)) × (List (Int × Int)))) × Int) × ((List (Int × Int)) × (List (Int × Int)))) × Int) => s.1.1.2) 4 rfl) (tad_cons (td_var (k := D.int) (f := fun s : ((((((((List (List Nat)) × (Int × Unit)) × (List (Int × Int))) × (List (Int × Int))) × ((List (Int × Int)) × (List (Int × Int)))) × Int) × ((List (Int × Int)) × (List (Int × Int)))) × Int) => s.2) 5 rfl) tad_nil))) tad_nil) ct_lst (o_appendD (k := (kT2 D.int D.int)))
    (tb_if (tt_val (k := D.bl) (td_call (tad_cons (td_var (k := (kTp D.str)) (f := fun s : (((((((((List (List Nat)) × (Int × Unit)) × (List (Int × Int))) × (List (Int × Int))) × ((List (Int × Int)) × (List (Int × Int)))) × Int) × ((List (Int × Int)) × (List (Int × Int)))) × Int) × (List (Int × Int))) => s.1.1.1.1.1.1.1.1) 0 rfl) (tad_cons (td_var (k := D.int) (f := fun s : (((((((((List (List Nat)) × (Int × Unit)) × (List (Int × Int))) × (List (Int × Int))) × ((List (Int × Int)) × (List (Int × Int)))) × Int) × ((List (Int × Int)) × (List (Int × Int)))) × Int) × (List (Int × Int))) => s.1.1.1.2) 4 rfl) (tad_cons (td_var (k := D.int) (f := fun s : (((((((((List (List Nat)) × (Int × Unit)) × (List (Int × Int))) × (List (Int × Int))) × ((List (Int × Int)) × (List (Int × Int)))) × Int) × ((List (Int × Int)) × (List (Int × Int)))) × Int) × (List (Int × Int))) => s.1.2) 5 rfl) tad_nil))) tf__law_is_near))
    (tb_last (tb_mutD (kc := (kLs (kT2 D.int D.int))) (f := fun s : (((((((((List (List Nat)) × (Int × Unit)) × (List (Int × Int))) × (List (Int × Int))) × ((List (Int × Int)) × (List (Int × Int)))) × Int) × ((List (Int × Int)) × (List (Int × Int)))) × Int) × (List (Int × Int))) => s.1.1.2.2) 3 rfl (tad_cons (td_tup (k := (kT2 D.int D.int)) (fun a : (Int × (Int × Unit)) => (a.1, a.2.1)) (tad_cons (td_var (k := D.int) (f := fun s : (((((((((List (List Nat)) × (Int × Unit)) × (List (Int × Int))) × (List (Int × Int))) × ((List (Int × Int)) × (List (Int × Int)))) × Int) × ((List (Int × Int)) × (List (Int × Int)))) × Int) × (List (Int × Int))) => s.1.1.1.2) 4 rfl) (tad_cons (td_var (k := D.int) (f := fun s : (((((((((List (List Nat)) × (Int × Unit)) × (List (Int × Int))) × (List (Int × Int))) × ((List (Int × Int)) × (List (Int × Int)))) × Int) × ((List (Int × Int)) × (List (Int × Int)))) × Int) × (List (Int × Int))) => s.1.2) 5 rfl) tad_nil))) tad_nil) ct_lst (o_appendD (k := (kT2 D.int D.int)))
    (tb_end (fun s : ((((((((((List (List Nat)) × (Int × Unit)) × (List (Int × Int))) × (List (Int × Int))) × ((List (Int × Int)) × (List (Int × Int)))) × Int) × ((List (Int × Int)) × (List (Int × Int)))) × Int) × (List (Int × Int))) × (List (Int × Int))) => (s.1.2, s.2)) (fun s e μ E => Enc.wk (p := fun s : ((((((((((List (List Nat)) × (Int × Unit)) × (List (Int × Int))) × (List (Int × Int))) × ((List (Int × Int)) × (List (Int × Int)))) × Int) × ((List (Int × Int)) × (List (Int × Int)))) × Int) × (List (Int × Int))) × (List (Int × Int))) => (s.1.1.1.1, (s.1.2, s.2))) (by exact ⟨(fun _ => rfl), ⟨(fun _ => rfl), ⟨⟨rfl, fun _ => rfl⟩, ⟨⟨rfl, fun _ => rfl⟩, ⟨(fun _ => rfl), ⟨trivial, trivial⟩⟩⟩⟩⟩⟩) E)) (fun _ _ _ _ _ => trivial)))
    (tb_end (fun s : (((((((((List (List Nat)) × (Int × Unit)) × (List (Int × Int))) × (List (Int × Int))) × ((List (Int × Int)) × (List (Int × Int)))) × Int) × ((List (Int × Int)) × (List (Int × Int)))) × Int) × (List (Int × Int))) => (s.2, s.1.1.2.2)) (fun s e μ E => Enc.wk (p := fun s : (((((((((List (List Nat)) × (Int × Unit)) × (List (Int × Int))) × (List (Int × Int))) × ((List (Int × Int)) × (List (Int × Int)))) × Int) × ((List (Int × Int)) × (List (Int × Int)))) × Int) × (List (Int × Int))) => (s.1.1.1, (s.2, s.1.1.2.2))) (by exact ⟨(fun _ => rfl), ⟨(fun _ => rfl), ⟨⟨rfl, fun _ => rfl⟩, ⟨⟨rfl, fun _ => rfl⟩, ⟨(fun _ => rfl), ⟨trivial, trivial⟩⟩⟩⟩⟩⟩) E)) (fun _ _ _ _ _ => trivial)) (fun _ _ _ _ _ => trivial))
    (tb_end (fun s : ((((((((List (List Nat)) × (Int × Unit)) × (List (Int × Int))) × (List (Int × Int))) × ((List (Int × Int)) × (List (Int × Int)))) × Int) × ((List (Int × Int)) × (List (Int × Int)))) × Int) => (s.1.2.1, s.1.2.2)) (fun s e μ E => Enc.wk (p := fun s : ((((((((List (List Nat)) × (Int × Unit)) × (List (Int × Int))) × (List (Int × Int))) × ((List (Int × Int)) × (List (Int × Int)))) × Int) × ((List (Int × Int)) × (List (Int × Int)))) × Int) => (s.1.1, (s.1.2.1, s.1.2.2))) (by exact ⟨(fun _ => rfl), ⟨(fun _ => rfl), ⟨⟨rfl, fun _ => rfl⟩, ⟨⟨rfl, fun _ => rfl⟩, ⟨(fun _ => rfl), ⟨trivial, trivial⟩⟩⟩⟩⟩⟩) E)) (fun _ _ _ _ _ => trivial))
    (tb_end (fun s : (((((((List (List Nat)) × (Int × Unit)) × (List (Int × Int))) × (List (Int × Int))) × ((List (Int × Int)) × (List (Int × Int)))) × Int) × ((List (Int × Int)) × (List (Int × Int)))) => (s.2.1, s.2.2)) (fun s e μ E => Enc.wk (p := fun s : (((((((List (List Nat)) × (Int × Unit)) × (List (Int × Int))) × (List (Int × Int))) × ((List (Int × Int)) × (List (Int × Int)))) × Int) × ((List (Int × Int)) × (List (Int × Int)))) => (s.1.1.1, (s.2.1, s.2.2))) (by exact ⟨(fun _ => rfl), ⟨(fun _ => rfl), ⟨⟨rfl, fun _ => rfl⟩, ⟨⟨rfl, fun _ => rfl⟩, ⟨trivial, ⟨trivial, trivial⟩⟩⟩⟩⟩⟩) E)) (fun _ _ _ _ _ => trivial)))
    (tb_ifR0 (tt_andP (fun s : (((((List (List Nat)) × (Int × Unit)) × (List (Int × Int))) × (List (Int × Int))) × ((List (Int × Int)) × (List (Int × Int)))) => (!decide (s.2.2 = ([] : List (Int × Int))))) (fun s : (((((List (List Nat)) × (Int × Unit)) × (List (Int × Int))) × (List (Int × Int))) × ((List (Int × Int)) × (List (Int × Int)))) => (decide ((s.1.1.1.2.1 % (4 : Int)) > (0 : Int)))) (tt_val (k := D.bl) (td_bin (te_cel (k := (kLs (kT2 D.int D.int))) (f := fun s : (((((List (List Nat)) × (Int × Unit)) × (List (Int × Int))) × (List (Int × Int))) × ((List (Int × Int)) × (List (Int × Int)))) => s.2.2) 3 rfl) (te_td (td_lst (k := (kLs (kT2 D.int D.int))) (fun a : Unit => ([] : List (Int × Int))) tad_nil)) (o_ne (k := (kLs (kT2 D.int D.int)))))) (tt_val (k := D.bl) (td_bin (te_td (td_modK (c := 4) (td_var (k := D.int) (f := fun s : (((((List (List Nat)) × (Int × Unit)) × (List (Int × Int))) × (List (Int × Int))) × ((List (Int × Int)) × (List (Int × Int)))) => s.1.1.1.2.1) 1 rfl))) (te_td (td_k (k := D.int) (0 : Int))) (o_gt)))) nn_ret
    (tb_retD (td_bin (te_cel (k := (kLs (kT2 D.int D.int))) (f := fun s : (((((List (List Nat)) × (Int × Unit)) × (List (Int × Int))) × (List (Int × Int))) × ((List (Int × Int)) × (List (Int × Int)))) => s.2.2) 3 rfl) (te_td (td_bin (te_td (td_divK (c := 4) (td_var (k := D.int) (f := fun s : (((((List (List Nat)) × (Int × Unit)) × (List (Int × Int))) × (List (Int × Int))) × ((List (Int × Int)) × (List (Int × Int)))) => s.1.1.1.2.1) 1 rfl))) (te_td (td_fn (ta_cons (te_cel (k := (kLs (kT2 D.int D.int))) (f := fun s : (((((List (List Nat)) × (Int × Unit)) × (List (Int × Int))) × (List (Int × Int))) × ((List (Int × Int)) × (List (Int × Int)))) => s.2.2) 3 rfl) ta_nil) (o_lenL (k := (kT2 D.int D.int))))) o_mod)) o_ixL) qr_f (fun _ _ _ _ _ => trivial))
    (tb_retD (td_bin (te_cel (k := (kLs (kT2 D.int D.int))) (f := fun s : (((((List (List Nat)) × (Int × Unit)) × (List (Int × Int))) × (List (Int × Int))) × ((List (Int × Int)) × (List (Int × Int)))) => s.2.1) 2 rfl) (te_td (td_bin (te_td (td_divK (c := 4) (td_var (k := D.int) (f := fun s : (((((List (List Nat)) × (Int × Unit)) × (List (Int × Int))) × (List (Int × Int))) × ((List (Int × Int)) × (List (Int × Int)))) => s.1.1.1.2.1) 1 rfl))) (te_td (td_fn (ta_cons (te_cel (k := (kLs (kT2 D.int D.int))) (f := fun s : (((((List (List Nat)) × (Int × Unit)) × (List (Int × Int))) × (List (Int × Int))) × ((List (Int × Int)) × (List (Int × Int)))) => s.2.1) 2 rfl) ta_nil) (o_lenL (k := (kT2 D.int D.int))))) o_mod)) o_ixL) qr_f (fun _ _ _ _ _ => trivial)) (fun _ _ _ _ _ => trivial)) (fun _ _ _ _ _ => trivial))) (fun _ _ _ _ _ => trivial))) (fun _ _ _ _ _ => trivial)), fun a => by simp only [t__law_starts, R.bind_ok]⟩
noncomputable def t__law_straight (a_rows_here : (List (List Nat))) (a_cell : Int) (a_letters_here : (List Nat)) (a_many : Int) : R (List (Int × Int × (List Nat))) := R.fin (N := Unit) (L := Unit) (ρ := (List (Int × Int × (List Nat))))
    (R.bind (R.ok (a_cell % (2 : Int))) fun way_277 =>
    (R.bind ((t__law_starts a_rows_here (a_cell / (2 : Int)))) fun p278 =>
    (R.bind (R.ok ([] : List (Int × Int × (List Nat)))) fun found_279 =>
    (R.bind (R.ok (0 : Int)) fun blanks_281 =>
    (R.bind (R.ok (a_cell / (4096 : Int))) fun rest_282 =>
    (R.seq (ρ := (List (Int × Int × (List Nat)))) (whR (ρ := (List (Int × Int × (List Nat)))) (found_279, blanks_281, rest_282, p278.1, p278.2) (fun (l284 : ((List (Int × Int × (List Nat))) × Int × Int × Int × Int)) => (if (decide (l284.2.2.2.1 < ((a_rows_here.length : Nat) : Int))) then (R.bind (R.bind (R.bind (atR a_rows_here (0 : Int)) fun x285 => R.ok ((x285.length : Nat) : Int)) fun x287 => R.ok (decide (l284.2.2.2.2 < x287))) fun x289 => (if x289 then R.ok (decide (((l284.1.length : Nat) : Int) < a_many)) else R.ok false)) else R.ok false)) fun (l284 : ((List (Int × Int × (List Nat))) × Int × Int × Int × Int)) =>
    (R.seq (ρ := (List (Int × Int × (List Nat)))) (R.bind (R.bind (R.bind (atR a_rows_here l284.2.2.2.1) fun x291 => (R.bind (atR x291 l284.2.2.2.2) fun c => R.ok [c])) fun x293 => R.ok (decide (x293 = ([46] : List Nat)))) fun x316 => if x316 then (R.bind ((t__law_draw a_cell (((l284.1.length : Nat) : Int) + (3 : Int)))) fun number_296 =>
    (R.seq (ρ := (List (Int × Int × (List Nat)))) (if (decide (((a_cell / (2048 : Int)) % (2 : Int)) = (1 : Int))) then (R.bind (R.ok (l284.2.2.1 % (2000 : Int))) fun number_298 =>
    (R.bind (R.ok (l284.2.2.1 / (2000 : Int))) fun rest_299 =>
    (R.ok (.nx (rest_299, number_298)))))
    else (R.ok (.nx (l284.2.2.1, number_296)))) fun j300 =>
    (R.bind ((t__law_sign j300.2 a_letters_here)) fun sign_here_301 =>
    (R.seq (ρ := (List (Int × Int × (List Nat)))) (if (decide (l284.2.1 = (2 : Int))) then (R.bind ((lowR sign_here_301)) fun sign_here_303 =>
    (R.ok (.nx sign_here_303)))
    else (R.ok (.nx sign_here_301))) fun j304 =>
    (R.bind ((R.bind (R.bind (R.bind (lowR j304) fun x305 => R.ok (!decide (j304 = x305))) fun x307 => R.ok (if x307 then (1 : Int) else 0)) fun x309 => R.ok (l284.2.1 + x309))) fun blanks_311 =>
    (R.bind ((appR l284.1 (l284.2.2.2.1, l284.2.2.2.2, j304))) fun found_312 =>
    (R.ok (.nx (found_312, blanks_311, j300.1)))))))))
    else (R.ok (.nx (l284.1, l284.2.1, l284.2.2.1)))) fun j313 =>
    (R.bind (R.ok (l284.2.2.2.1 + way_277)) fun row_314 =>
    (R.bind (R.ok ((l284.2.2.2.2 + (1 : Int)) - way_277)) fun column_315 =>
    (R.ok (.nx (j313.1, j313.2.1, j313.2.2, row_314, column_315))))))) fun l317 =>
    (R.ok (.rt l317.1))))))))
theorem tf__law_straight : TF true false (fun a : ((List (List Nat)) × (Int × ((List Nat) × (Int × Unit)))) => [(kTp D.str) a.1, D.int a.2.1, D.str a.2.2.1, D.int a.2.2.2.1]) (kTp (kT3 D.int D.int D.str)) F__law_straight (fun a => t__law_straight a.1 a.2.1 a.2.2.1 a.2.2.2.1) := by
  unfold F__law_straight m__law_straight m__law_straight_w0
  refine tf_mk4 (n := 12) (fs := [fun a : ((List (List Nat)) × (Int × ((List Nat) × (Int × Unit)))) => (kTp D.str) a.1, fun a : ((List (List Nat)) × (Int × ((List Nat) × (Int × Unit)))) => D.int a.2.1, fun a : ((List (List Nat)) × (Int × ((List Nat) × (Int × Unit)))) => D.str a.2.2.1, fun a : ((List (List Nat)) × (Int × ((List Nat) × (Int × Unit)))) => D.int a.2.2.2.1]) (r := 8) (Qn := fun _ (_ : Unit) _ _ => True) (Ql := fun _ (_ : Unit) _ _ => True) (Qx := fun _ _ _ => True) ?hk ?h
  case hk => exact fun _ => rfl
  case h => exact ⟨_, (tb_set (k := D.int) 4 (td_modK (c := 2) (td_var (k := D.int) (f := fun s : ((List (List Nat)) × (Int × ((List Nat) × (Int × Unit)))) => s.2.1) 1 rfl))
    (tb_asg (k := (kT2 D.int D.int)) (ws := [(8, fun v : (Int × Int) => D.int v.1), (9, fun v : (Int × Int) => D.int v.2)]) (td_call (tad_cons (td_var (k := (kTp D.str)) (f := fun s : (((List (List Nat)) × (Int × ((List Nat) × (Int × Unit)))) × Int) => s.1.1) 0 rfl) (tad_cons (td_divK (c := 2) (td_var (k := D.int) (f := fun s : (((List (List Nat)) × (Int × ((List Nat) × (Int × Unit)))) × Int) => s.1.2.1) 1 rfl)) tad_nil)) tf__law_starts) (fun _ _ => rfl)
    (tb_setC (k := (kLs (kT3 D.int D.int D.str))) 5 (tc_lst (k := (kLs (kT3 D.int D.int D.str))) (fun a : Unit => ([] : List (Int × Int × (List Nat)))) tad_nil) (fun n_280 =>
    (tb_set (k := D.int) 6 (td_k (k := D.int) (0 : Int))
    (tb_set (k := D.int) 7 (td_divK (c := 4096) (td_var (k := D.int) (f := fun s : ((((((List (List Nat)) × (Int × ((List Nat) × (Int × Unit)))) × Int) × (Int × Int)) × (List (Int × Int × (List Nat)))) × Int) => s.1.1.1.1.2.1) 1 rfl))
    (tb_while (L' := ((List (Int × Int × (List Nat))) × Int × Int × Int × Int)) (δ := [.val (fun t : ((((((((List (List Nat)) × (Int × ((List Nat) × (Int × Unit)))) × Int) × (Int × Int)) × (List (Int × Int × (List Nat)))) × Int) × Int) × ((List (Int × Int × (List Nat))) × Int × Int × Int × Int)) => (kTp D.str) t.1.1.1.1.1.1.1), .val (fun t : ((((((((List (List Nat)) × (Int × ((List Nat) × (Int × Unit)))) × Int) × (Int × Int)) × (List (Int × Int × (List Nat)))) × Int) × Int) × ((List (Int × Int × (List Nat))) × Int × Int × Int × Int)) => D.int t.1.1.1.1.1.1.2.1), .val (fun t : ((((((((List (List Nat)) × (Int × ((List Nat) × (Int × Unit)))) × Int) × (Int × Int)) × (List (Int × Int × (List Nat)))) × Int) × Int) × ((List (Int × Int × (List Nat))) × Int × Int × Int × Int)) => D.str t.1.1.1.1.1.1.2.2.1), .val (fun t : ((((((((List (List Nat)) × (Int × ((List Nat) × (Int × Unit)))) × Int) × (Int × Int)) × (List (Int × Int × (List Nat)))) × Int) × Int) × ((List (Int × Int × (List Nat))) × Int × Int × Int × Int)) => D.int t.1.1.1.1.1.1.2.2.2.1), .val (fun t : ((((((((List (List Nat)) × (Int × ((List Nat) × (Int × Unit)))) × Int) × (Int × Int)) × (List (Int × Int × (List Nat)))) × Int) × Int) × ((List (Int × Int × (List Nat))) × Int × Int × Int × Int)) => D.int t.1.1.1.1.1.2), .cel (some n_280) (fun t : ((((((((List (List Nat)) × (Int × ((List Nat) × (Int × Unit)))) × Int) × (Int × Int)) × (List (Int × Int × (List Nat)))) × Int) × Int) × ((List (Int × Int × (List Nat))) × Int × Int × Int × Int)) => (kLs (kT3 D.int D.int D.str)) t.2.1), .val (fun t : ((((((((List (List Nat)) × (Int × ((List Nat) × (Int × Unit)))) × Int) × (Int × Int)) × (List (Int × Int × (List Nat)))) × Int) × Int) × ((List (Int × Int × (List Nat))) × Int × Int × Int × Int)) => D.int t.2.2.1), .val (fun t : ((((((((List (List Nat)) × (Int × ((List Nat) × (Int × Unit)))) × Int) × (Int × Int)) × (List (Int × Int × (List Nat)))) × Int) × Int) × ((List (Int × Int × (List Nat))) × Int × Int × Int × Int)) => D.int t.2.2.2.1), .val (fun t : ((((((((List (List Nat)) × (Int × ((List Nat) × (Int × Unit)))) × Int) × (Int × Int)) × (List (Int × Int × (List Nat)))) × Int) × Int) × ((List (Int × Int × (List Nat))) × Int × Int × Int × Int)) => D.int t.2.2.2.2.1), .val (fun t : ((((((((List (List Nat)) × (Int × ((List Nat) × (Int × Unit)))) × Int) × (Int × Int)) × (List (Int × Int × (List Nat)))) × Int) × Int) × ((List (Int × Int × (List Nat))) × Int × Int × Int × Int)) => D.int t.2.2.2.2.2), .un, .un]) (fun s : (((((((List (List Nat)) × (Int × ((List Nat) × (Int × Unit)))) × Int) × (Int × Int)) × (List (Int × Int × (List Nat)))) × Int) × Int) => (s.1.1.2, s.1.2, s.2, s.1.1.1.2.1, s.1.1.1.2.2)) (by exact ⟨(fun _ => rfl), ⟨(fun _ => rfl), ⟨(fun _ => rfl), ⟨(fun _ => rfl), ⟨(fun _ => rfl), ⟨⟨rfl, fun _ => rfl⟩, ⟨(fun _ => rfl), ⟨(fun _ => rfl), ⟨(fun _ => rfl), ⟨(fun _ => rfl), ⟨trivial, ⟨trivial, trivial⟩⟩⟩⟩⟩⟩⟩⟩⟩⟩⟩⟩) (tt_and (tt_val (k := D.bl) (td_bin (te_td (td_var (k := D.int) (f := fun s : ((((((((List (List Nat)) × (Int × ((List Nat) × (Int × Unit)))) × Int) × (Int × Int)) × (List (Int × Int × (List Nat)))) × Int) × Int) × ((List (Int × Int × (List Nat))) × Int × Int × Int × Int)) => s.2.2.2.2.1) 8 rfl)) (te_td (td_fn (ta_cons (te_td (td_var (k := (kTp D.str)) (f := fun s : ((((((((List (List Nat)) × (Int × ((List Nat) × (Int × Unit)))) × Int) × (Int × Int)) × (List (Int × Int × (List Nat)))) × Int) × Int) × ((List (Int × Int × (List Nat))) × Int × Int × Int × Int)) => s.1.1.1.1.1.1.1) 0 rfl)) ta_nil) (o_lenT (k := D.str)))) (o_lt))) (tt_and (tt_val (k := D.bl) (td_bin (te_td (td_var (k := D.int) (f := fun s : ((((((((List (List Nat)) × (Int × ((List Nat) × (Int × Unit)))) × Int) × (Int × Int)) × (List (Int × Int × (List Nat)))) × Int) × Int) × ((List (Int × Int × (List Nat))) × Int × Int × Int × Int)) => s.2.2.2.2.2) 9 rfl)) (te_td (td_fn (ta_cons (te_td (td_bin (te_td (td_var (k := (kTp D.str)) (f := fun s : ((((((((List (List Nat)) × (Int × ((List Nat) × (Int × Unit)))) × Int) × (Int × Int)) × (List (Int × Int × (List Nat)))) × Int) × Int) × ((List (Int × Int × (List Nat))) × Int × Int × Int × Int)) => s.1.1.1.1.1.1.1) 0 rfl)) (te_td (td_k (k := D.int) (0 : Int))) o_ixT)) ta_nil) (o_lenS))) (o_lt))) (tt_val (k := D.bl) (td_bin (te_td (td_fn (ta_cons (te_cel (k := (kLs (kT3 D.int D.int D.str))) (f := fun s : ((((((((List (List Nat)) × (Int × ((List Nat) × (Int × Unit)))) × Int) × (Int × Int)) × (List (Int × Int × (List Nat)))) × Int) × Int) × ((List (Int × Int × (List Nat))) × Int × Int × Int × Int)) => s.2.1) 5 rfl) ta_nil) (o_lenL (k := (kT3 D.int D.int D.str))))) (te_td (td_var (k := D.int) (f := fun s : ((((((((List (List Nat)) × (Int × ((List Nat) × (Int × Unit)))) × Int) × (Int × Int)) × (List (Int × Int × (List Nat)))) × Int) × Int) × ((List (Int × Int × (List Nat))) × Int × Int × Int × Int)) => s.1.1.1.1.1.1.2.2.2.1) 3 rfl)) (o_lt)))))
    (tb_ifJ (Y := ((List (Int × Int × (List Nat))) × Int × Int)) (δ := [.val (fun t : (((((((((List (List Nat)) × (Int × ((List Nat) × (Int × Unit)))) × Int) × (Int × Int)) × (List (Int × Int × (List Nat)))) × Int) × Int) × ((List (Int × Int × (List Nat))) × Int × Int × Int × Int)) × ((List (Int × Int × (List Nat))) × Int × Int)) => (kTp D.str) t.1.1.1.1.1.1.1.1), .val (fun t : (((((((((List (List Nat)) × (Int × ((List Nat) × (Int × Unit)))) × Int) × (Int × Int)) × (List (Int × Int × (List Nat)))) × Int) × Int) × ((List (Int × Int × (List Nat))) × Int × Int × Int × Int)) × ((List (Int × Int × (List Nat))) × Int × Int)) => D.int t.1.1.1.1.1.1.1.2.1), .val (fun t : (((((((((List (List Nat)) × (Int × ((List Nat) × (Int × Unit)))) × Int) × (Int × Int)) × (List (Int × Int × (List Nat)))) × Int) × Int) × ((List (Int × Int × (List Nat))) × Int × Int × Int × Int)) × ((List (Int × Int × (List Nat))) × Int × Int)) => D.str t.1.1.1.1.1.1.1.2.2.1), .val (fun t : (((((((((List (List Nat)) × (Int × ((List Nat) × (Int × Unit)))) × Int) × (Int × Int)) × (List (Int × Int × (List Nat)))) × Int) × Int) × ((List (Int × Int × (List Nat))) × Int × Int × Int × Int)) × ((List (Int × Int × (List Nat))) × Int × Int)) => D.int t.1.1.1.1.1.1.1.2.2.2.1), .val (fun t : (((((((((List (List Nat)) × (Int × ((List Nat) × (Int × Unit)))) × Int) × (Int × Int)) × (List (Int × Int × (List Nat)))) × Int) × Int) × ((List (Int × Int × (List Nat))) × Int × Int × Int × Int)) × ((List (Int × Int × (List Nat))) × Int × Int)) => D.int t.1.1.1.1.1.1.2), .cel (some n_280) (fun t : (((((((((List (List Nat)) × (Int × ((List Nat) × (Int × Unit)))) × Int) × (Int × Int)) × (List (Int × Int × (List Nat)))) × Int) × Int) × ((List (Int × Int × (List Nat))) × Int × Int × Int × Int)) × ((List (Int × Int × (List Nat))) × Int × Int)) => (kLs (kT3 D.int D.int D.str)) t.2.1), .val (fun t : (((((((((List (List Nat)) × (Int × ((List Nat) × (Int × Unit)))) × Int) × (Int × Int)) × (List (Int × Int × (List Nat)))) × Int) × Int) × ((List (Int × Int × (List Nat))) × Int × Int × Int × Int)) × ((List (Int × Int × (List Nat))) × Int × Int)) => D.int t.2.2.1), .val (fun t : (((((((((List (List Nat)) × (Int × ((List Nat) × (Int × Unit)))) × Int) × (Int × Int)) × (List (Int × Int × (List Nat)))) × Int) × Int) × ((List (Int × Int × (List Nat))) × Int × Int × Int × Int)) × ((List (Int × Int × (List Nat))) × Int × Int)) => D.int t.2.2.2), .val (fun t : (((((((((List (List Nat)) × (Int × ((List Nat) × (Int × Unit)))) × Int) × (Int × Int)) × (List (Int × Int × (List Nat)))) × Int) × Int) × ((List (Int × Int × (List Nat))) × Int × Int × Int × Int)) × ((List (Int × Int × (List Nat))) × Int × Int)) => D.int t.1.2.2.2.2.1), .val (fun t : (((((((((List (List Nat)) × (Int × ((List Nat) × (Int × Unit)))) × Int) × (Int × Int)) × (List (Int × Int × (List Nat)))) × Int) × Int) × ((List (Int × Int × (List Nat))) × Int × Int × Int × Int)) × ((List (Int × Int × (List Nat))) × Int × Int)) => D.int t.1.2.2.2.2.2), .un, .un]) (tt_val (k := D.bl) (td_bin (te_td (td_bin (te_td (td_bin (te_td (td_var (k := (kTp D.str)) (f := fun s : ((((((((List (List Nat)) × (Int × ((List Nat) × (Int × Unit)))) × Int) × (Int × Int)) × (List (Int × Int × (List Nat)))) × Int) × Int) × ((List (Int × Int × (List Nat))) × Int × Int × Int × Int)) => s.1.1.1.1.1.1.1) 0 rfl)) (te_td (td_var (k := D.int) (f := fun s : ((((((((List (List Nat)) × (Int × ((List Nat) × (Int × Unit)))) × Int) × (Int × Int)) × (List (Int × Int × (List Nat)))) × Int) × Int) × ((List (Int × Int × (List Nat))) × Int × Int × Int × Int)) => s.2.2.2.2.1) 8 rfl)) o_ixT)) (te_td (td_var (k := D.int) (f := fun s : ((((((((List (List Nat)) × (Int × ((List Nat) × (Int × Unit)))) × Int) × (Int × Int)) × (List (Int × Int × (List Nat)))) × Int) × Int) × ((List (Int × Int × (List Nat))) × Int × Int × Int × Int)) => s.2.2.2.2.2) 9 rfl)) o_ixS)) (te_td (td_k (k := D.str) ([46] : List Nat))) (o_eq (k := D.str))))
    (tb_set (k := D.int) 10 (td_call (tad_cons (td_var (k := D.int) (f := fun s : ((((((((List (List Nat)) × (Int × ((List Nat) × (Int × Unit)))) × Int) × (Int × Int)) × (List (Int × Int × (List Nat)))) × Int) × Int) × ((List (Int × Int × (List Nat))) × Int × Int × Int × Int)) => s.1.1.1.1.1.1.2.1) 1 rfl) (tad_cons (td_bin (te_td (td_fn (ta_cons (te_cel (k := (kLs (kT3 D.int D.int D.str))) (f := fun s : ((((((((List (List Nat)) × (Int × ((List Nat) × (Int × Unit)))) × Int) × (Int × Int)) × (List (Int × Int × (List Nat)))) × Int) × Int) × ((List (Int × Int × (List Nat))) × Int × Int × Int × Int)) => s.2.1) 5 rfl) ta_nil) (o_lenL (k := (kT3 D.int D.int D.str))))) (te_td (td_k (k := D.int) (3 : Int))) o_add) tad_nil)) tf__law_draw)
    (tb_ifJ (Y := (Int × Int)) (δ := [.val (fun t : ((((((((((List (List Nat)) × (Int × ((List Nat) × (Int × Unit)))) × Int) × (Int × Int)) × (List (Int × Int × (List Nat)))) × Int) × Int) × ((List (Int × Int × (List Nat))) × Int × Int × Int × Int)) × Int) × (Int × Int)) => (kTp D.str) t.1.1.1.1.1.1.1.1.1), .val (fun t : ((((((((((List (List Nat)) × (Int × ((List Nat) × (Int × Unit)))) × Int) × (Int × Int)) × (List (Int × Int × (List Nat)))) × Int) × Int) × ((List (Int × Int × (List Nat))) × Int × Int × Int × Int)) × Int) × (Int × Int)) => D.int t.1.1.1.1.1.1.1.1.2.1), .val (fun t : ((((((((((List (List Nat)) × (Int × ((List Nat) × (Int × Unit)))) × Int) × (Int × Int)) × (List (Int × Int × (List Nat)))) × Int) × Int) × ((List (Int × Int × (List Nat))) × Int × Int × Int × Int)) × Int) × (Int × Int)) => D.str t.1.1.1.1.1.1.1.1.2.2.1), .val (fun t : ((((((((((List (List Nat)) × (Int × ((List Nat) × (Int × Unit)))) × Int) × (Int × Int)) × (List (Int × Int × (List Nat)))) × Int) × Int) × ((List (Int × Int × (List Nat))) × Int × Int × Int × Int)) × Int) × (Int × Int)) => D.int t.1.1.1.1.1.1.1.1.2.2.2.1), .val (fun t : ((((((((((List (List Nat)) × (Int × ((List Nat) × (Int × Unit)))) × Int) × (Int × Int)) × (List (Int × Int × (List Nat)))) × Int) × Int) × ((List (Int × Int × (List Nat))) × Int × Int × Int × Int)) × Int) × (Int × Int)) => D.int t.1.1.1.1.1.1.1.2), .cel (some n_280) (fun t : ((((((((((List (List Nat)) × (Int × ((List Nat) × (Int × Unit)))) × Int) × (Int × Int)) × (List (Int × Int × (List Nat)))) × Int) × Int) × ((List (Int × Int × (List Nat))) × Int × Int × Int × Int)) × Int) × (Int × Int)) => (kLs (kT3 D.int D.int D.str)) t.1.1.2.1), .val (fun t : ((((((((((List (List Nat)) × (Int × ((List Nat) × (Int × Unit)))) × Int) × (Int × Int)) × (List (Int × Int × (List Nat)))) × Int) × Int) × ((List (Int × Int × (List Nat))) × Int × Int × Int × Int)) × Int) × (Int × Int)) => D.int t.1.1.2.2.1), .val (fun t : ((((((((((List (List Nat)) × (Int × ((List Nat) × (Int × Unit)))) × Int) × (Int × Int)) × (List (Int × Int × (List Nat)))) × Int) × Int) × ((List (Int × Int × (List Nat))) × Int × Int × Int × Int)) × Int) × (Int × Int)) => D.int t.2.1), .val (fun t : ((((((((((List (List Nat)) × (Int × ((List Nat) × (Int × Unit)))) × Int) × (Int × Int)) × (List (Int × Int × (List Nat)))) × Int) × Int) × ((List (Int × Int × (List Nat))) × Int × Int × Int × Int)) × Int) × (Int × Int)) => D.int t.1.1.2.2.2.2.1), .val (fun t : ((((((((((List (List Nat)) × (Int × ((List Nat) × (Int × Unit)))) × Int) × (Int × Int)) × (List (Int × Int × (List Nat)))) × Int) × Int) × ((List (Int × Int × (List Nat))) × Int × Int × Int × Int)) × Int) × (Int × Int)) => D.int t.1.1.2.2.2.2.2), .val (fun t : ((((((((((List (List Nat)) × (Int × ((List Nat) × (Int × Unit)))) × Int) × (Int × Int)) × (List (Int × Int × (List Nat)))) × Int) × Int) × ((List (Int × Int × (List Nat))) × Int × Int × Int × Int)) × Int) × (Int × Int)) => D.int t.2.2), .un]) (tt_val (k := D.bl) (td_bin (te_td (td_modK (c := 2) (td_divK (c := 2048) (td_var (k := D.int) (f := fun s : (((((((((List (List Nat)) × (Int × ((List Nat) × (Int × Unit)))) × Int) × (Int × Int)) × (List (Int × Int × (List Nat)))) × Int) × Int) × ((List (Int × Int × (List Nat))) × Int × Int × Int × Int)) × Int) => s.1.1.1.1.1.1.1.2.1) 1 rfl)))) (te_td (td_k (k := D.int) (1 : Int))) (o_eq (k := D.int))))
    (tb_set (k := D.int) 10 (td_modK (c := 2000) (td_var (k := D.int) (f := fun s : (((((((((List (List Nat)) × (Int × ((List Nat) × (Int × Unit)))) × Int) × (Int × Int)) × (List (Int × Int × (List Nat)))) × Int) × Int) × ((List (Int × Int × (List Nat))) × Int × Int × Int × Int)) × Int) => s.1.2.2.2.1) 7 rfl))
    (tb_last (tb_set (k := D.int) 7 (td_divK (c := 2000) (td_var (k := D.int) (f := fun s : ((((((((((List (List Nat)) × (Int × ((List Nat) × (Int × Unit)))) × Int) × (Int × Int)) × (List (Int × Int × (List Nat)))) × Int) × Int) × ((List (Int × Int × (List Nat))) × Int × Int × Int × Int)) × Int) × Int) => s.1.1.2.2.2.1) 7 rfl))
    (tb_end (fun s : (((((((((((List (List Nat)) × (Int × ((List Nat) × (Int × Unit)))) × Int) × (Int × Int)) × (List (Int × Int × (List Nat)))) × Int) × Int) × ((List (Int × Int × (List Nat))) × Int × Int × Int × Int)) × Int) × Int) × Int) => (s.2, s.1.2)) (fun s e μ E => Enc.wk (p := fun s : (((((((((((List (List Nat)) × (Int × ((List Nat) × (Int × Unit)))) × Int) × (Int × Int)) × (List (Int × Int × (List Nat)))) × Int) × Int) × ((List (Int × Int × (List Nat))) × Int × Int × Int × Int)) × Int) × Int) × Int) => (s.1.1, (s.2, s.1.2))) (by exact ⟨(fun _ => rfl), ⟨(fun _ => rfl), ⟨(fun _ => rfl), ⟨(fun _ => rfl), ⟨(fun _ => rfl), ⟨⟨rfl, fun _ => rfl⟩, ⟨(fun _ => rfl), ⟨(fun _ => rfl), ⟨(fun _ => rfl), ⟨(fun _ => rfl), ⟨(fun _ => rfl), ⟨trivial, trivial⟩⟩⟩⟩⟩⟩⟩⟩⟩⟩⟩⟩) E)) (fun _ _ _ _ _ => trivial))) (fun _ _ _ _ _ => trivial))
    (tb_end (fun s : (((((((((List (List Nat)) × (Int × ((List Nat) × (Int × Unit)))) × Int) × (Int × Int)) × (List (Int × Int × (List Nat)))) × Int) × Int) × ((List (Int × Int × (List Nat))) × Int × Int × Int × Int)) × Int) => (s.1.2.2.2.1, s.2)) (fun s e μ E => Enc.wk (p := fun s : (((((((((List (List Nat)) × (Int × ((List Nat) × (Int × Unit)))) × Int) × (Int × Int)) × (List (Int × Int × (List Nat)))) × Int) × Int) × ((List (Int × Int × (List Nat))) × Int × Int × Int × Int)) × Int) => (s, (s.1.2.2.2.1, s.2))) (by exact ⟨(fun _ => rfl), ⟨(fun _ => rfl), ⟨(fun _ => rfl), ⟨(fun _ => rfl), ⟨(fun _ => rfl), ⟨⟨rfl, fun _ => rfl⟩, ⟨(fun _ => rfl), ⟨(fun _ => rfl), ⟨(fun _ => rfl), ⟨(fun _ => rfl), ⟨(fun _ => rfl), ⟨trivial, trivial⟩⟩⟩⟩⟩⟩⟩⟩⟩⟩⟩⟩) E))
    (tb_set (k := D.str) 11 (td_call (tad_cons (td_var (k := D.int) (f := fun s : ((((((((((List (List Nat)) × (Int × ((List Nat) × (Int × Unit)))) × Int) × (Int × Int)) × (List (Int × Int × (List Nat)))) × Int) × Int) × ((List (Int × Int × (List Nat))) × Int × Int × Int × Int)) × Int) × (Int × Int)) => s.2.2) 10 rfl) (tad_cons (td_var (k := D.str) (f := fun s : ((((((((((List (List Nat)) × (Int × ((List Nat) × (Int × Unit)))) × Int) × (Int × Int)) × (List (Int × Int × (List Nat)))) × Int) × Int) × ((List (Int × Int × (List Nat))) × Int × Int × Int × Int)) × Int) × (Int × Int)) => s.1.1.1.1.1.1.1.1.2.2.1) 2 rfl) tad_nil)) tf__law_sign)
    (tb_ifJ (Y := ((List Nat))) (δ := [.val (fun t : ((((((((((((List (List Nat)) × (Int × ((List Nat) × (Int × Unit)))) × Int) × (Int × Int)) × (List (Int × Int × (List Nat)))) × Int) × Int) × ((List (Int × Int × (List Nat))) × Int × Int × Int × Int)) × Int) × (Int × Int)) × (List Nat)) × ((List Nat))) => (kTp D.str) t.1.1.1.1.1.1.1.1.1.1.1), .val (fun t : ((((((((((((List (List Nat)) × (Int × ((List Nat) × (Int × Unit)))) × Int) × (Int × Int)) × (List (Int × Int × (List Nat)))) × Int) × Int) × ((List (Int × Int × (List Nat))) × Int × Int × Int × Int)) × Int) × (Int × Int)) × (List Nat)) × ((List Nat))) => D.int t.1.1.1.1.1.1.1.1.1.1.2.1), .val (fun t : ((((((((((((List (List Nat)) × (Int × ((List Nat) × (Int × Unit)))) × Int) × (Int × Int)) × (List (Int × Int × (List Nat)))) × Int) × Int) × ((List (Int × Int × (List Nat))) × Int × Int × Int × Int)) × Int) × (Int × Int)) × (List Nat)) × ((List Nat))) => D.str t.1.1.1.1.1.1.1.1.1.1.2.2.1), .val (fun t : ((((((((((((List (List Nat)) × (Int × ((List Nat) × (Int × Unit)))) × Int) × (Int × Int)) × (List (Int × Int × (List Nat)))) × Int) × Int) × ((List (Int × Int × (List Nat))) × Int × Int × Int × Int)) × Int) × (Int × Int)) × (List Nat)) × ((List Nat))) => D.int t.1.1.1.1.1.1.1.1.1.1.2.2.2.1), .val (fun t : ((((((((((((List (List Nat)) × (Int × ((List Nat) × (Int × Unit)))) × Int) × (Int × Int)) × (List (Int × Int × (List Nat)))) × Int) × Int) × ((List (Int × Int × (List Nat))) × Int × Int × Int × Int)) × Int) × (Int × Int)) × (List Nat)) × ((List Nat))) => D.int t.1.1.1.1.1.1.1.1.1.2), .cel (some n_280) (fun t : ((((((((((((List (List Nat)) × (Int × ((List Nat) × (Int × Unit)))) × Int) × (Int × Int)) × (List (Int × Int × (List Nat)))) × Int) × Int) × ((List (Int × Int × (List Nat))) × Int × Int × Int × Int)) × Int) × (Int × Int)) × (List Nat)) × ((List Nat))) => (kLs (kT3 D.int D.int D.str)) t.1.1.1.1.2.1), .val (fun t : ((((((((((((List (List Nat)) × (Int × ((List Nat) × (Int × Unit)))) × Int) × (Int × Int)) × (List (Int × Int × (List Nat)))) × Int) × Int) × ((List (Int × Int × (List Nat))) × Int × Int × Int × Int)) × Int) × (Int × Int)) × (List Nat)) × ((List Nat))) => D.int t.1.1.1.1.2.2.1), .val (fun t : ((((((((((((List (List Nat)) × (Int × ((List Nat) × (Int × Unit)))) × Int) × (Int × Int)) × (List (Int × Int × (List Nat)))) × Int) × Int) × ((List (Int × Int × (List Nat))) × Int × Int × Int × Int)) × Int) × (Int × Int)) × (List Nat)) × ((List Nat))) => D.int t.1.1.2.1), .val (fun t : ((((((((((((List (List Nat)) × (Int × ((List Nat) × (Int × Unit)))) × Int) × (Int × Int)) × (List (Int × Int × (List Nat)))) × Int) × Int) × ((List (Int × Int × (List Nat))) × Int × Int × Int × Int)) × Int) × (Int × Int)) × (List Nat)) × ((List Nat))) => D.int t.1.1.1.1.2.2.2.2.1), .val (fun t : ((((((((((((List (List Nat)) × (Int × ((List Nat) × (Int × Unit)))) × Int) × (Int × Int)) × (List (Int × Int × (List Nat)))) × Int) × Int) × ((List (Int × Int × (List Nat))) × Int × Int × Int × Int)) × Int) × (Int × Int)) × (List Nat)) × ((List Nat))) => D.int t.1.1.1.1.2.2.2.2.2), .val (fun t : ((((((((((((List (List Nat)) × (Int × ((List Nat) × (Int × Unit)))) × Int) × (Int × Int)) × (List (Int × Int × (List Nat)))) × Int) × Int) × ((List (Int × Int × (List Nat))) × Int × Int × Int × Int)) × Int) × (Int × Int)) × (List Nat)) × ((List Nat))) => D.int t.1.1.2.2), .val (fun t : ((((((((((((List (List Nat)) × (Int × ((List Nat) × (Int × Unit)))) × Int) × (Int × Int)) × (List (Int × Int × (List Nat)))) × Int) × Int) × ((List (Int × Int × (List Nat))) × Int × Int × Int × Int)) × Int) × (Int × Int)) × (List Nat)) × ((List Nat))) => D.str t.2)]) (tt_val (k := D.bl) (td_bin (te_td (td_var (k := D.int) (f := fun s : (((((((((((List (List Nat)) × (Int × ((List Nat) × (Int × Unit)))) × Int) × (Int × Int)) × (List (Int × Int × (List Nat)))) × Int) × Int) × ((List (Int × Int × (List Nat))) × Int × Int × Int × Int)) × Int) × (Int × Int)) × (List Nat)) => s.1.1.1.2.2.1) 6 rfl)) (te_td (td_k (k := D.int) (2 : Int))) (o_eq (k := D.int))))
    (tb_last (tb_set (k := D.str) 11 (td_bm (te_td (td_var (k := D.str) (f := fun s : (((((((((((List (List Nat)) × (Int × ((List Nat) × (Int × Unit)))) × Int) × (Int × Int)) × (List (Int × Int × (List Nat)))) × Int) × Int) × ((List (Int × Int × (List Nat))) × Int × Int × Int × Int)) × Int) × (Int × Int)) × (List Nat)) => s.2) 11 rfl)) ta_nil ik_str (o_lower))
    (tb_end (fun s : ((((((((((((List (List Nat)) × (Int × ((List Nat) × (Int × Unit)))) × Int) × (Int × Int)) × (List (Int × Int × (List Nat)))) × Int) × Int) × ((List (Int × Int × (List Nat))) × Int × Int × Int × Int)) × Int) × (Int × Int)) × (List Nat)) × (List Nat)) => s.2) (fun s e μ E => Enc.wk (p := fun s : ((((((((((((List (List Nat)) × (Int × ((List Nat) × (Int × Unit)))) × Int) × (Int × Int)) × (List (Int × Int × (List Nat)))) × Int) × Int) × ((List (Int × Int × (List Nat))) × Int × Int × Int × Int)) × Int) × (Int × Int)) × (List Nat)) × (List Nat)) => (s.1, s.2)) (by exact ⟨(fun _ => rfl), ⟨(fun _ => rfl), ⟨(fun _ => rfl), ⟨(fun _ => rfl), ⟨(fun _ => rfl), ⟨⟨rfl, fun _ => rfl⟩, ⟨(fun _ => rfl), ⟨(fun _ => rfl), ⟨(fun _ => rfl), ⟨(fun _ => rfl), ⟨(fun _ => rfl), ⟨(fun _ => rfl), trivial⟩⟩⟩⟩⟩⟩⟩⟩⟩⟩⟩⟩) E)) (fun _ _ _ _ _ => trivial)))
    (tb_end (fun s : (((((((((((List (List Nat)) × (Int × ((List Nat) × (Int × Unit)))) × Int) × (Int × Int)) × (List (Int × Int × (List Nat)))) × Int) × Int) × ((List (Int × Int × (List Nat))) × Int × Int × Int × Int)) × Int) × (Int × Int)) × (List Nat)) => s.2) (fun s e μ E => Enc.wk (p := fun s : (((((((((((List (List Nat)) × (Int × ((List Nat) × (Int × Unit)))) × Int) × (Int × Int)) × (List (Int × Int × (List Nat)))) × Int) × Int) × ((List (Int × Int × (List Nat))) × Int × Int × Int × Int)) × Int) × (Int × Int)) × (List Nat)) => (s, s.2)) (by exact ⟨(fun _ => rfl), ⟨(fun _ => rfl), ⟨(fun _ => rfl), ⟨(fun _ => rfl), ⟨(fun _ => rfl), ⟨⟨rfl, fun _ => rfl⟩, ⟨(fun _ => rfl), ⟨(fun _ => rfl), ⟨(fun _ => rfl), ⟨(fun _ => rfl), ⟨(fun _ => rfl), ⟨(fun _ => rfl), trivial⟩⟩⟩⟩⟩⟩⟩⟩⟩⟩⟩⟩) E))
    (tb_set (k := D.int) 6 (td_bin (te_td (td_var (k := D.int) (f := fun s : ((((((((((((List (List Nat)) × (Int × ((List Nat) × (Int × Unit)))) × Int) × (Int × Int)) × (List (Int × Int × (List Nat)))) × Int) × Int) × ((List (Int × Int × (List Nat))) × Int × Int × Int × Int)) × Int) × (Int × Int)) × (List Nat)) × ((List Nat))) => s.1.1.1.1.2.2.1) 6 rfl)) (te_td (td_fn (ta_cons (te_td (td_bin (te_td (td_var (k := D.str) (f := fun s : ((((((((((((List (List Nat)) × (Int × ((List Nat) × (Int × Unit)))) × Int) × (Int × Int)) × (List (Int × Int × (List Nat)))) × Int) × Int) × ((List (Int × Int × (List Nat))) × Int × Int × Int × Int)) × Int) × (Int × Int)) × (List Nat)) × ((List Nat))) => s.2) 11 rfl)) (te_td (td_bm (te_td (td_var (k := D.str) (f := fun s : ((((((((((((List (List Nat)) × (Int × ((List Nat) × (Int × Unit)))) × Int) × (Int × Int)) × (List (Int × Int × (List Nat)))) × Int) × Int) × ((List (Int × Int × (List Nat))) × Int × Int × Int × Int)) × Int) × (Int × Int)) × (List Nat)) × ((List Nat))) => s.2) 11 rfl)) ta_nil ik_str (o_lower))) (o_ne (k := D.str)))) ta_nil) (o_intB))) o_add)
    (tb_last (tb_mutD (kc := (kLs (kT3 D.int D.int D.str))) (f := fun s : (((((((((((((List (List Nat)) × (Int × ((List Nat) × (Int × Unit)))) × Int) × (Int × Int)) × (List (Int × Int × (List Nat)))) × Int) × Int) × ((List (Int × Int × (List Nat))) × Int × Int × Int × Int)) × Int) × (Int × Int)) × (List Nat)) × ((List Nat))) × Int) => s.1.1.1.1.1.2.1) 5 rfl (tad_cons (td_tup (k := (kT3 D.int D.int D.str)) (fun a : (Int × (Int × ((List Nat) × Unit))) => (a.1, a.2.1, a.2.2.1)) (tad_cons (td_var (k := D.int) (f := fun s : (((((((((((((List (List Nat)) × (Int × ((List Nat) × (Int × Unit)))) × Int) × (Int × Int)) × (List (Int × Int × (List Nat)))) × Int) × Int) × ((List (Int × Int × (List Nat))) × Int × Int × Int × Int)) × Int) × (Int × Int)) × (List Nat)) × ((List Nat))) × Int) => s.1.1.1.1.1.2.2.2.2.1) 8 rfl) (tad_cons (td_var (k := D.int) (f := fun s : (((((((((((((List (List Nat)) × (Int × ((List Nat) × (Int × Unit)))) × Int) × (Int × Int)) × (List (Int × Int × (List Nat)))) × Int) × Int) × ((List (Int × Int × (List Nat))) × Int × Int × Int × Int)) × Int) × (Int × Int)) × (List Nat)) × ((List Nat))) × Int) => s.1.1.1.1.1.2.2.2.2.2) 9 rfl) (tad_cons (td_var (k := D.str) (f := fun s : (((((((((((((List (List Nat)) × (Int × ((List Nat) × (Int × Unit)))) × Int) × (Int × Int)) × (List (Int × Int × (List Nat)))) × Int) × Int) × ((List (Int × Int × (List Nat))) × Int × Int × Int × Int)) × Int) × (Int × Int)) × (List Nat)) × ((List Nat))) × Int) => s.1.2) 11 rfl) tad_nil)))) tad_nil) ct_lst (o_appendD (k := (kT3 D.int D.int D.str)))
    (tb_end (fun s : ((((((((((((((List (List Nat)) × (Int × ((List Nat) × (Int × Unit)))) × Int) × (Int × Int)) × (List (Int × Int × (List Nat)))) × Int) × Int) × ((List (Int × Int × (List Nat))) × Int × Int × Int × Int)) × Int) × (Int × Int)) × (List Nat)) × ((List Nat))) × Int) × (List (Int × Int × (List Nat)))) => (s.2, s.1.2, s.1.1.1.1.2.1)) (fun s e μ E => Enc.wk (p := fun s : ((((((((((((((List (List Nat)) × (Int × ((List Nat) × (Int × Unit)))) × Int) × (Int × Int)) × (List (Int × Int × (List Nat)))) × Int) × Int) × ((List (Int × Int × (List Nat))) × Int × Int × Int × Int)) × Int) × (Int × Int)) × (List Nat)) × ((List Nat))) × Int) × (List (Int × Int × (List Nat)))) => (s.1.1.1.1.1.1, (s.2, s.1.2, s.1.1.1.1.2.1))) (by exact ⟨(fun _ => rfl), ⟨(fun _ => rfl), ⟨(fun _ => rfl), ⟨(fun _ => rfl), ⟨(fun _ => rfl), ⟨⟨rfl, fun _ => rfl⟩, ⟨(fun _ => rfl), ⟨(fun _ => rfl), ⟨(fun _ => rfl), ⟨(fun _ => rfl), ⟨trivial, ⟨trivial, trivial⟩⟩⟩⟩⟩⟩⟩⟩⟩⟩⟩⟩) E)) (fun _ _ _ _ _ => trivial))) (fun _ _ _ _ _ => trivial)) (fun _ _ _ _ _ => trivial)) (fun _ _ _ _ _ => trivial)) (fun _ _ _ _ _ => trivial)) (fun _ _ _ _ _ => trivial))
    (tb_end (fun s : ((((((((List (List Nat)) × (Int × ((List Nat) × (Int × Unit)))) × Int) × (Int × Int)) × (List (Int × Int × (List Nat)))) × Int) × Int) × ((List (Int × Int × (List Nat))) × Int × Int × Int × Int)) => (s.2.1, s.2.2.1, s.2.2.2.1)) (fun s e μ E => Enc.wk (p := fun s : ((((((((List (List Nat)) × (Int × ((List Nat) × (Int × Unit)))) × Int) × (Int × Int)) × (List (Int × Int × (List Nat)))) × Int) × Int) × ((List (Int × Int × (List Nat))) × Int × Int × Int × Int)) => (s, (s.2.1, s.2.2.1, s.2.2.2.1))) (by exact ⟨(fun _ => rfl), ⟨(fun _ => rfl), ⟨(fun _ => rfl), ⟨(fun _ => rfl), ⟨(fun _ => rfl), ⟨⟨rfl, fun _ => rfl⟩, ⟨(fun _ => rfl), ⟨(fun _ => rfl), ⟨(fun _ => rfl), ⟨(fun _ => rfl), ⟨trivial, ⟨trivial, trivial⟩⟩⟩⟩⟩⟩⟩⟩⟩⟩⟩⟩) E))
    (tb_set (k := D.int) 8 (td_bin (te_td (td_var (k := D.int) (f := fun s : (((((((((List (List Nat)) × (Int × ((List Nat) × (Int × Unit)))) × Int) × (Int × Int)) × (List (Int × Int × (List Nat)))) × Int) × Int) × ((List (Int × Int × (List Nat))) × Int × Int × Int × Int)) × ((List (Int × Int × (List Nat))) × Int × Int)) => s.1.2.2.2.2.1) 8 rfl)) (te_td (td_var (k := D.int) (f := fun s : (((((((((List (List Nat)) × (Int × ((List Nat) × (Int × Unit)))) × Int) × (Int × Int)) × (List (Int × Int × (List Nat)))) × Int) × Int) × ((List (Int × Int × (List Nat))) × Int × Int × Int × Int)) × ((List (Int × Int × (List Nat))) × Int × Int)) => s.1.1.1.1.1.1.2) 4 rfl)) o_add)
    (tb_last (tb_set (k := D.int) 9 (td_bin (te_td (td_bin (te_td (td_var (k := D.int) (f := fun s : ((((((((((List (List Nat)) × (Int × ((List Nat) × (Int × Unit)))) × Int) × (Int × Int)) × (List (Int × Int × (List Nat)))) × Int) × Int) × ((List (Int × Int × (List Nat))) × Int × Int × Int × Int)) × ((List (Int × Int × (List Nat))) × Int × Int)) × Int) => s.1.1.2.2.2.2.2) 9 rfl)) (te_td (td_k (k := D.int) (1 : Int))) o_add)) (te_td (td_var (k := D.int) (f := fun s : ((((((((((List (List Nat)) × (Int × ((List Nat) × (Int × Unit)))) × Int) × (Int × Int)) × (List (Int × Int × (List Nat)))) × Int) × Int) × ((List (Int × Int × (List Nat))) × Int × Int × Int × Int)) × ((List (Int × Int × (List Nat))) × Int × Int)) × Int) => s.1.1.1.1.1.1.1.2) 4 rfl)) o_sub)
    (tb_end (fun s : (((((((((((List (List Nat)) × (Int × ((List Nat) × (Int × Unit)))) × Int) × (Int × Int)) × (List (Int × Int × (List Nat)))) × Int) × Int) × ((List (Int × Int × (List Nat))) × Int × Int × Int × Int)) × ((List (Int × Int × (List Nat))) × Int × Int)) × Int) × Int) => (s.1.1.2.1, s.1.1.2.2.1, s.1.1.2.2.2, s.1.2, s.2)) (fun s e μ E => Enc.wk (p := fun s : (((((((((((List (List Nat)) × (Int × ((List Nat) × (Int × Unit)))) × Int) × (Int × Int)) × (List (Int × Int × (List Nat)))) × Int) × Int) × ((List (Int × Int × (List Nat))) × Int × Int × Int × Int)) × ((List (Int × Int × (List Nat))) × Int × Int)) × Int) × Int) => (s.1.1.1.1, (s.1.1.2.1, s.1.1.2.2.1, s.1.1.2.2.2, s.1.2, s.2))) (by exact ⟨(fun _ => rfl), ⟨(fun _ => rfl), ⟨(fun _ => rfl), ⟨(fun _ => rfl), ⟨(fun _ => rfl), ⟨⟨rfl, fun _ => rfl⟩, ⟨(fun _ => rfl), ⟨(fun _ => rfl), ⟨(fun _ => rfl), ⟨(fun _ => rfl), ⟨trivial, ⟨trivial, trivial⟩⟩⟩⟩⟩⟩⟩⟩⟩⟩⟩⟩) E)) (fun _ _ _ _ _ => trivial))) (fun _ _ _ _ _ => trivial)) (fun _ _ _ _ _ => trivial))
    (tb_retD (td_fn (ta_cons (te_cel (k := (kLs (kT3 D.int D.int D.str))) (f := fun s : ((((((((List (List Nat)) × (Int × ((List Nat) × (Int × Unit)))) × Int) × (Int × Int)) × (List (Int × Int × (List Nat)))) × Int) × Int) × ((List (Int × Int × (List Nat))) × Int × Int × Int × Int)) => s.2.1) 5 rfl) ta_nil) (o_tupleL (k := (kT3 D.int D.int D.str)))) qr_f (fun _ _ _ _ _ => trivial)) (fun _ _ _ _ _ => trivial)) (fun _ _ _ _ _ => trivial)) (fun _ _ _ _ _ => trivial))) (fun _ _ _ _ _ => trivial)) (fun _ _ _ _ _ => trivial)) (fun _ _ _ _ _ => trivial)), fun a => by simp only [t__law_straight, R.bind_ok]⟩
noncomputable def t__law_run (a_grid_here : (List (List (List Nat)))) (a_row : Int) (a_column : Int) (a_way : Int) : R (Int × Int × Int × (List Nat)) := R.fin (N := Unit) (L := Unit) (ρ := (Int × Int × Int × (List Nat)))
    (R.seq (ρ := (Int × Int × Int × (List Nat))) (whR (ρ := (Int × Int × Int × (List Nat))) (a_row, a_column) (fun (l319 : (Int × Int)) => (if (decide (l319.1 ≥ a_way)) then (if (decide (l319.2 ≥ ((1 : Int) - a_way))) then (R.bind (R.bind (atR a_grid_here (l319.1 - a_way)) fun x320 => (atR x320 ((l319.2 - (1 : Int)) + a_way))) fun x322 => R.ok (!decide (x322 = ([46] : List Nat)))) else R.ok false) else R.ok false)) fun (l319 : (Int × Int)) =>
    (R.bind (R.ok (l319.1 - a_way)) fun row_324 =>
    (R.bind (R.ok ((l319.2 - (1 : Int)) + a_way)) fun column_325 =>
    (R.ok (.nx (row_324, column_325)))))) fun l326 =>
    (R.bind (R.ok ([] : List Nat)) fun signs_327 =>
    (R.bind (R.ok (l326.1, l326.2)) fun here_328 =>
    (R.seq (ρ := (Int × Int × Int × (List Nat))) (whR (ρ := (Int × Int × Int × (List Nat))) (signs_327, here_328) (fun (l330 : ((List Nat) × (Int × Int))) => (if (decide (l330.2.1 < ((a_grid_here.length : Nat) : Int))) then (R.bind (R.bind (R.bind (atR a_grid_here (0 : Int)) fun x331 => R.ok ((x331.length : Nat) : Int)) fun x333 => R.ok (decide (l330.2.2 < x333))) fun x339 => (if x339 then (R.bind (R.bind (atR a_grid_here l330.2.1) fun x335 => (atR x335 l330.2.2)) fun x337 => R.ok (!decide (x337 = ([46] : List Nat)))) else R.ok false)) else R.ok false)) fun (l330 : ((List Nat) × (Int × Int))) =>
    (R.bind ((R.bind (R.bind (atR a_grid_here l330.2.1) fun x341 => (atR x341 l330.2.2)) fun x343 => (addR l330.1 x343))) fun signs_345 =>
    (R.bind (R.ok ((l330.2.1 + a_way), ((l330.2.2 + (1 : Int)) - a_way))) fun here_346 =>
    (R.ok (.nx (signs_345, here_346)))))) fun l347 =>
    (R.ok (.rt (l326.1, l326.2, a_way, l347.1)))))))
theorem tf__law_run : TF true false (fun a : ((List (List (List Nat))) × (Int × (Int × (Int × Unit)))) => [(kLs (kLs D.str)) a.1, D.int a.2.1, D.int a.2.2.1, D.int a.2.2.2.1]) (kT4 D.int D.int D.int D.str) F__law_run (fun a => t__law_run a.1 a.2.1 a.2.2.1 a.2.2.2.1) := by
  unfold F__law_run m__law_run m__law_run_w1 m__law_run_w0
  refine tf_mk4 (n := 6) (fs := [fun a : ((List (List (List Nat))) × (Int × (Int × (Int × Unit)))) => (kLs (kLs D.str)) a.1, fun a : ((List (List (List Nat))) × (Int × (Int × (Int × Unit)))) => D.int a.2.1, fun a : ((List (List (List Nat))) × (Int × (Int × (Int × Unit)))) => D.int a.2.2.1, fun a : ((List (List (List Nat))) × (Int × (Int × (Int × Unit)))) => D.int a.2.2.2.1]) (r := 2) (Qn := fun _ (_ : Unit) _ _ => True) (Ql := fun _ (_ : Unit) _ _ => True) (Qx := fun _ _ _ => True) ?hk ?h
  case hk => exact fun _ => rfl
  case h => exact ⟨_, (tb_while (L' := (Int × Int)) (δ := [.val (fun t : (((List (List (List Nat))) × (Int × (Int × (Int × Unit)))) × (Int × Int)) => (kLs (kLs D.str)) t.1.1), .val (fun t : (((List (List (List Nat))) × (Int × (Int × (Int × Unit)))) × (Int × Int)) => D.int t.2.1), .val (fun t : (((List (List (List Nat))) × (Int × (Int × (Int × Unit)))) × (Int × Int)) => D.int t.2.2), .val (fun t : (((List (List (List Nat))) × (Int × (Int × (Int × Unit)))) × (Int × Int)) => D.int t.1.2.2.2.1), .un, .un]) (fun s : ((List (List (List Nat))) × (Int × (Int × (Int × Unit)))) => (s.2.1, s.2.2.1)) (by exact ⟨(fun _ => rfl), ⟨(fun _ => rfl), ⟨(fun _ => rfl), ⟨(fun _ => rfl), ⟨trivial, ⟨trivial, trivial⟩⟩⟩⟩⟩⟩) (tt_and (tt_val (k := D.bl) (td_bin (te_td (td_var (k := D.int) (f := fun s : (((List (List (List Nat))) × (Int × (Int × (Int × Unit)))) × (Int × Int)) => s.2.1) 1 rfl)) (te_td (td_var (k := D.int) (f := fun s : (((List (List (List Nat))) × (Int × (Int × (Int × Unit)))) × (Int × Int)) => s.1.2.2.2.1) 3 rfl)) (o_ge))) (tt_and (tt_val (k := D.bl) (td_bin (te_td (td_var (k := D.int) (f := fun s : (((List (List (List Nat))) × (Int × (Int × (Int × Unit)))) × (Int × Int)) => s.2.2) 2 rfl)) (te_td (td_bin (te_td (td_k (k := D.int) (1 : Int))) (te_td (td_var (k := D.int) (f := fun s : (((List (List (List Nat))) × (Int × (Int × (Int × Unit)))) × (Int × Int)) => s.1.2.2.2.1) 3 rfl)) o_sub)) (o_ge))) (tt_val (k := D.bl) (td_bin (te_td (td_bin (te_td (td_bin (te_td (td_var (k := (kLs (kLs D.str))) (f := fun s : (((List (List (List Nat))) × (Int × (Int × (Int × Unit)))) × (Int × Int)) => s.1.1) 0 rfl)) (te_td (td_bin (te_td (td_var (k := D.int) (f := fun s : (((List (List (List Nat))) × (Int × (Int × (Int × Unit)))) × (Int × Int)) => s.2.1) 1 rfl)) (te_td (td_var (k := D.int) (f := fun s : (((List (List (List Nat))) × (Int × (Int × (Int × Unit)))) × (Int × Int)) => s.1.2.2.2.1) 3 rfl)) o_sub)) o_ixL)) (te_td (td_bin (te_td (td_bin (te_td (td_var (k := D.int) (f := fun s : (((List (List (List Nat))) × (Int × (Int × (Int × Unit)))) × (Int × Int)) => s.2.2) 2 rfl)) (te_td (td_k (k := D.int) (1 : Int))) o_sub)) (te_td (td_var (k := D.int) (f := fun s : (((List (List (List Nat))) × (Int × (Int × (Int × Unit)))) × (Int × Int)) => s.1.2.2.2.1) 3 rfl)) o_add)) o_ixL)) (te_td (td_k (k := D.str) ([46] : List Nat))) (o_ne (k := D.str))))))
    (tb_set (k := D.int) 1 (td_bin (te_td (td_var (k := D.int) (f := fun s : (((List (List (List Nat))) × (Int × (Int × (Int × Unit)))) × (Int × Int)) => s.2.1) 1 rfl)) (te_td (td_var (k := D.int) (f := fun s : (((List (List (List Nat))) × (Int × (Int × (Int × Unit)))) × (Int × Int)) => s.1.2.2.2.1) 3 rfl)) o_sub)
    (tb_last (tb_set (k := D.int) 2 (td_bin (te_td (td_bin (te_td (td_var (k := D.int) (f := fun s : ((((List (List (List Nat))) × (Int × (Int × (Int × Unit)))) × (Int × Int)) × Int) => s.1.2.2) 2 rfl)) (te_td (td_k (k := D.int) (1 : Int))) o_sub)) (te_td (td_var (k := D.int) (f := fun s : ((((List (List (List Nat))) × (Int × (Int × (Int × Unit)))) × (Int × Int)) × Int) => s.1.1.2.2.2.1) 3 rfl)) o_add)
    (tb_end (fun s : (((((List (List (List Nat))) × (Int × (Int × (Int × Unit)))) × (Int × Int)) × Int) × Int) => (s.1.2, s.2)) (fun s e μ E => Enc.wk (p := fun s : (((((List (List (List Nat))) × (Int × (Int × (Int × Unit)))) × (Int × Int)) × Int) × Int) => (s.1.1.1, (s.1.2, s.2))) (by exact ⟨(fun _ => rfl), ⟨(fun _ => rfl), ⟨(fun _ => rfl), ⟨(fun _ => rfl), ⟨trivial, ⟨trivial, trivial⟩⟩⟩⟩⟩⟩) E)) (fun _ _ _ _ _ => trivial))) (fun _ _ _ _ _ => trivial))
    (tb_set (k := D.str) 4 (td_k (k := D.str) ([] : List Nat))
    (tb_set (k := (kT2 D.int D.int)) 5 (td_tup (k := (kT2 D.int D.int)) (fun a : (Int × (Int × Unit)) => (a.1, a.2.1)) (tad_cons (td_var (k := D.int) (f := fun s : ((((List (List (List Nat))) × (Int × (Int × (Int × Unit)))) × (Int × Int)) × (List Nat)) => s.1.2.1) 1 rfl) (tad_cons (td_var (k := D.int) (f := fun s : ((((List (List (List Nat))) × (Int × (Int × (Int × Unit)))) × (Int × Int)) × (List Nat)) => s.1.2.2) 2 rfl) tad_nil)))
    (tb_while (L' := ((List Nat) × (Int × Int))) (δ := [.val (fun t : ((((((List (List (List Nat))) × (Int × (Int × (Int × Unit)))) × (Int × Int)) × (List Nat)) × (Int × Int)) × ((List Nat) × (Int × Int))) => (kLs (kLs D.str)) t.1.1.1.1.1), .val (fun t : ((((((List (List (List Nat))) × (Int × (Int × (Int × Unit)))) × (Int × Int)) × (List Nat)) × (Int × Int)) × ((List Nat) × (Int × Int))) => D.int t.1.1.1.2.1), .val (fun t : ((((((List (List (List Nat))) × (Int × (Int × (Int × Unit)))) × (Int × Int)) × (List Nat)) × (Int × Int)) × ((List Nat) × (Int × Int))) => D.int t.1.1.1.2.2), .val (fun t : ((((((List (List (List Nat))) × (Int × (Int × (Int × Unit)))) × (Int × Int)) × (List Nat)) × (Int × Int)) × ((List Nat) × (Int × Int))) => D.int t.1.1.1.1.2.2.2.1), .val (fun t : ((((((List (List (List Nat))) × (Int × (Int × (Int × Unit)))) × (Int × Int)) × (List Nat)) × (Int × Int)) × ((List Nat) × (Int × Int))) => D.str t.2.1), .val (fun t : ((((((List (List (List Nat))) × (Int × (Int × (Int × Unit)))) × (Int × Int)) × (List Nat)) × (Int × Int)) × ((List Nat) × (Int × Int))) => (kT2 D.int D.int) t.2.2)]) (fun s : (((((List (List (List Nat))) × (Int × (Int × (Int × Unit)))) × (Int × Int)) × (List Nat)) × (Int × Int)) => (s.1.2, s.2)) (by exact ⟨(fun _ => rfl), ⟨(fun _ => rfl), ⟨(fun _ => rfl), ⟨(fun _ => rfl), ⟨(fun _ => rfl), ⟨(fun _ => rfl), trivial⟩⟩⟩⟩⟩⟩) (tt_and (tt_val (k := D.bl) (td_bin (te_td (td_prj (k := (kT2 D.int D.int)) (l := D.int) (i := 0) (fun a : (Int × Int) => a.1) (td_var (k := (kT2 D.int D.int)) (f := fun s : ((((((List (List (List Nat))) × (Int × (Int × (Int × Unit)))) × (Int × Int)) × (List Nat)) × (Int × Int)) × ((List Nat) × (Int × Int))) => s.2.2) 5 rfl))) (te_td (td_fn (ta_cons (te_td (td_var (k := (kLs (kLs D.str))) (f := fun s : ((((((List (List (List Nat))) × (Int × (Int × (Int × Unit)))) × (Int × Int)) × (List Nat)) × (Int × Int)) × ((List Nat) × (Int × Int))) => s.1.1.1.1.1) 0 rfl)) ta_nil) (o_lenL (k := (kLs D.str))))) (o_lt))) (tt_and (tt_val (k := D.bl) (td_bin (te_td (td_prj (k := (kT2 D.int D.int)) (l := D.int) (i := 1) (fun a : (Int × Int) => a.2) (td_var (k := (kT2 D.int D.int)) (f := fun s : ((((((List (List (List Nat))) × (Int × (Int × (Int × Unit)))) × (Int × Int)) × (List Nat)) × (Int × Int)) × ((List Nat) × (Int × Int))) => s.2.2) 5 rfl))) (te_td (td_fn (ta_cons (te_td (td_bin (te_td (td_var (k := (kLs (kLs D.str))) (f := fun s : ((((((List (List (List Nat))) × (Int × (Int × (Int × Unit)))) × (Int × Int)) × (List Nat)) × (Int × Int)) × ((List Nat) × (Int × Int))) => s.1.1.1.1.1) 0 rfl)) (te_td (td_k (k := D.int) (0 : Int))) o_ixL)) ta_nil) (o_lenL (k := D.str)))) (o_lt))) (tt_val (k := D.bl) (td_bin (te_td (td_bin (te_td (td_bin (te_td (td_var (k := (kLs (kLs D.str))) (f := fun s : ((((((List (List (List Nat))) × (Int × (Int × (Int × Unit)))) × (Int × Int)) × (List Nat)) × (Int × Int)) × ((List Nat) × (Int × Int))) => s.1.1.1.1.1) 0 rfl)) (te_td (td_prj (k := (kT2 D.int D.int)) (l := D.int) (i := 0) (fun a : (Int × Int) => a.1) (td_var (k := (kT2 D.int D.int)) (f := fun s : ((((((List (List (List Nat))) × (Int × (Int × (Int × Unit)))) × (Int × Int)) × (List Nat)) × (Int × Int)) × ((List Nat) × (Int × Int))) => s.2.2) 5 rfl))) o_ixL)) (te_td (td_prj (k := (kT2 D.int D.int)) (l := D.int) (i := 1) (fun a : (Int × Int) => a.2) (td_var (k := (kT2 D.int D.int)) (f := fun s : ((((((List (List (List Nat))) × (Int × (Int × (Int × Unit)))) × (Int × Int)) × (List Nat)) × (Int × Int)) × ((List Nat) × (Int × Int))) => s.2.2) 5 rfl))) o_ixL)) (te_td (td_k (k := D.str) ([46] : List Nat))) (o_ne (k := D.str))))))
    (tb_set (k := D.str) 4 (td_bin (te_td (td_var (k := D.str) (f := fun s : ((((((List (List (List Nat))) × (Int × (Int × (Int × Unit)))) × (Int × Int)) × (List Nat)) × (Int × Int)) × ((List Nat) × (Int × Int))) => s.2.1) 4 rfl)) (te_td (td_bin (te_td (td_bin (te_td (td_var (k := (kLs (kLs D.str))) (f := fun s : ((((((List (List (List Nat))) × (Int × (Int × (Int × Unit)))) × (Int × Int)) × (List Nat)) × (Int × Int)) × ((List Nat) × (Int × Int))) => s.1.1.1.1.1) 0 rfl)) (te_td (td_prj (k := (kT2 D.int D.int)) (l := D.int) (i := 0) (fun a : (Int × Int) => a.1) (td_var (k := (kT2 D.int D.int)) (f := fun s : ((((((List (List (List Nat))) × (Int × (Int × (Int × Unit)))) × (Int × Int)) × (List Nat)) × (Int × Int)) × ((List Nat) × (Int × Int))) => s.2.2) 5 rfl))) o_ixL)) (te_td (td_prj (k := (kT2 D.int D.int)) (l := D.int) (i := 1) (fun a : (Int × Int) => a.2) (td_var (k := (kT2 D.int D.int)) (f := fun s : ((((((List (List (List Nat))) × (Int × (Int × (Int × Unit)))) × (Int × Int)) × (List Nat)) × (Int × Int)) × ((List Nat) × (Int × Int))) => s.2.2) 5 rfl))) o_ixL)) o_addS)
    (tb_last (tb_set (k := (kT2 D.int D.int)) 5 (td_tup (k := (kT2 D.int D.int)) (fun a : (Int × (Int × Unit)) => (a.1, a.2.1)) (tad_cons (td_bin (te_td (td_prj (k := (kT2 D.int D.int)) (l := D.int) (i := 0) (fun a : (Int × Int) => a.1) (td_var (k := (kT2 D.int D.int)) (f := fun s : (((((((List (List (List Nat))) × (Int × (Int × (Int × Unit)))) × (Int × Int)) × (List Nat)) × (Int × Int)) × ((List Nat) × (Int × Int))) × (List Nat)) => s.1.2.2) 5 rfl))) (te_td (td_var (k := D.int) (f := fun s : (((((((List (List (List Nat))) × (Int × (Int × (Int × Unit)))) × (Int × Int)) × (List Nat)) × (Int × Int)) × ((List Nat) × (Int × Int))) × (List Nat)) => s.1.1.1.1.1.2.2.2.1) 3 rfl)) o_add) (tad_cons (td_bin (te_td (td_bin (te_td (td_prj (k := (kT2 D.int D.int)) (l := D.int) (i := 1) (fun a : (Int × Int) => a.2) (td_var (k := (kT2 D.int D.int)) (f := fun s : (((((((List (List (List Nat))) × (Int × (Int × (Int × Unit)))) × (Int × Int)) × (List Nat)) × (Int × Int)) × ((List Nat) × (Int × Int))) × (List Nat)) => s.1.2.2) 5 rfl))) (te_td (td_k (k := D.int) (1 : Int))) o_add)) (te_td (td_var (k := D.int) (f := fun s : (((((((List (List (List Nat))) × (Int × (Int × (Int × Unit)))) × (Int × Int)) × (List Nat)) × (Int × Int)) × ((List Nat) × (Int × Int))) × (List Nat)) => s.1.1.1.1.1.2.2.2.1) 3 rfl)) o_sub) tad_nil)))
    (tb_end (fun s : ((((((((List (List (List Nat))) × (Int × (Int × (Int × Unit)))) × (Int × Int)) × (List Nat)) × (Int × Int)) × ((List Nat) × (Int × Int))) × (List Nat)) × (Int × Int)) => (s.1.2, s.2)) (fun s e μ E => Enc.wk (p := fun s : ((((((((List (List (List Nat))) × (Int × (Int × (Int × Unit)))) × (Int × Int)) × (List Nat)) × (Int × Int)) × ((List Nat) × (Int × Int))) × (List Nat)) × (Int × Int)) => (s.1.1.1, (s.1.2, s.2))) (by exact ⟨(fun _ => rfl), ⟨(fun _ => rfl), ⟨(fun _ => rfl), ⟨(fun _ => rfl), ⟨(fun _ => rfl), ⟨(fun _ => rfl), trivial⟩⟩⟩⟩⟩⟩) E)) (fun _ _ _ _ _ => trivial))) (fun _ _ _ _ _ => trivial))
    (tb_retD (td_tup (k := (kT4 D.int D.int D.int D.str)) (fun a : (Int × (Int × (Int × ((List Nat) × Unit)))) => (a.1, a.2.1, a.2.2.1, a.2.2.2.1)) (tad_cons (td_var (k := D.int) (f := fun s : ((((((List (List (List Nat))) × (Int × (Int × (Int × Unit)))) × (Int × Int)) × (List Nat)) × (Int × Int)) × ((List Nat) × (Int × Int))) => s.1.1.1.2.1) 1 rfl) (tad_cons (td_var (k := D.int) (f := fun s : ((((((List (List (List Nat))) × (Int × (Int × (Int × Unit)))) × (Int × Int)) × (List Nat)) × (Int × Int)) × ((List Nat) × (Int × Int))) => s.1.1.1.2.2) 2 rfl) (tad_cons (td_var (k := D.int) (f := fun s : ((((((List (List (List Nat))) × (Int × (Int × (Int × Unit)))) × (Int × Int)) × (List Nat)) × (Int × Int)) × ((List Nat) × (Int × Int))) => s.1.1.1.1.2.2.2.1) 3 rfl) (tad_cons (td_var (k := D.str) (f := fun s : ((((((List (List (List Nat))) × (Int × (Int × (Int × Unit)))) × (Int × Int)) × (List Nat)) × (Int × Int)) × ((List Nat) × (Int × Int))) => s.2.1) 4 rfl) tad_nil))))) qr_f (fun _ _ _ _ _ => trivial)) (fun _ _ _ _ _ => trivial)) (fun _ _ _ _ _ => trivial)) (fun _ _ _ _ _ => trivial)) (fun _ _ _ _ _ => trivial)), fun a => by simp only [t__law_run, R.bind_ok]⟩
noncomputable def t_way_of (a_laying : (List (Int × Int × (List Nat)))) : R Int := R.fin (N := Unit) (L := Unit) (ρ := Int)
    (R.bind (R.bind (R.bind (R.bind (atR a_laying (0 : Int)) fun x348 => R.ok x348.1) fun x352 => (R.bind (R.bind (atR a_laying (-(1 : Int))) fun x350 => R.ok x350.1) fun x353 => R.ok (!decide (x352 = x353)))) fun x356 => R.ok (if x356 then (1 : Int) else 0)) fun x358 => R.ok (.rt x358))
theorem tf_way_of : TF true false (fun a : ((List (Int × Int × (List Nat))) × Unit) => [(kTp (kT3 D.int D.int D.str)) a.1]) D.int F_way_of (fun a => t_way_of a.1) := by
  unfold F_way_of m_way_of 
  refine tf_mk4 (n := 1) (fs := [fun a : ((List (Int × Int × (List Nat))) × Unit) => (kTp (kT3 D.int D.int D.str)) a.1]) (r := 0) (Qn := fun _ (_ : Unit) _ _ => True) (Ql := fun _ (_ : Unit) _ _ => True) (Qx := fun _ _ _ => True) ?hk ?h
  case hk => exact fun _ => rfl
  case h => exact ⟨_, (tb_retD (td_fn (ta_cons (te_td (td_bin (te_td (td_prj (k := (kT3 D.int D.int D.str)) (l := D.int) (i := 0) (fun a : (Int × Int × (List Nat)) => a.1) (td_bin (te_td (td_var (k := (kTp (kT3 D.int D.int D.str))) (f := fun s : ((List (Int × Int × (List Nat))) × Unit) => s.1) 0 rfl)) (te_td (td_k (k := D.int) (0 : Int))) o_ixT))) (te_td (td_prj (k := (kT3 D.int D.int D.str)) (l := D.int) (i := 0) (fun a : (Int × Int × (List Nat)) => a.1) (td_bin (te_td (td_var (k := (kTp (kT3 D.int D.int D.str))) (f := fun s : ((List (Int × Int × (List Nat))) × Unit) => s.1) 0 rfl)) (te_td (td_un (te_td (td_k (k := D.int) (1 : Int))) o_neg)) o_ixT))) (o_ne (k := D.int)))) ta_nil) (o_intB)) qr_f (fun _ _ _ _ _ => trivial)), fun a => by simp only [t_way_of, R.bind_ok]⟩
end T20

namespace T20
open PySem L2 Lr
noncomputable def t__law_grid (rows : List (List Nat)) (L : List Tri) : R (List (List (List Nat))) := gridZ rows L
theorem tf__law_grid : TF false false (fun a : ((List (List Nat)) × ((List (Int × Int × (List Nat))) × Unit)) => [(kTp D.str) a.1, (kTp (kT3 D.int D.int D.str)) a.2.1]) (kLs (kLs D.str)) F__law_grid (fun a => t__law_grid a.1 a.2.1) := tf_grid
noncomputable def t_Board_laid (o : Ty_Board) (L : List Tri) : R Ty_Board := (laidT o.1 L).bind fun r => t_Board r o.2.1 o.2.2
theorem tf_Board_laid : TF false false (fun a : (Ty_Board × ((List (Int × Int × (List Nat))) × Unit)) => [(kObj 0 kf_Board) a.1, (kTp (kT3 D.int D.int D.str)) a.2.1]) (kObj 0 kf_Board) F_Board_laid (fun a => t_Board_laid a.1 a.2.1) :=
  tf_laid (pr := fun o : Ty_Board => o.1) (pm := fun o : Ty_Board => o.2.1) (pb := fun o : Ty_Board => o.2.2) (fun _ => rfl) (fun _ => rfl) (fun _ => rfl) tfi_Board
end T20

namespace T20
open PySem L2 Lr
noncomputable def t__law_words (a_rows_here : (List (List Nat))) (a_laying : (List (Int × Int × (List Nat)))) : R (List (Int × Int × Int × (List Nat))) := R.fin (N := Unit) (L := Unit) (ρ := (List (Int × Int × Int × (List Nat))))
    (R.bind ((t__law_grid a_rows_here a_laying)) fun grid_here_1 =>
    (R.bind ((R.bind (R.bind (R.bind (atR a_laying (0 : Int)) fun x2 => R.ok x2.1) fun x6 => (R.bind (R.bind (atR a_laying (-(1 : Int))) fun x4 => R.ok x4.1) fun x7 => R.ok (!decide (x6 = x7)))) fun x10 => R.ok (if x10 then (1 : Int) else 0))) fun line_12 =>
    (R.bind ((R.bind (R.bind (R.bind (atR a_laying (0 : Int)) fun x13 => R.ok x13.1) fun x17 => (R.bind (R.bind (atR a_laying (0 : Int)) fun x15 => R.ok x15.2.1) fun x18 => (t__law_run grid_here_1 x17 x18 line_12))) fun x21 => R.ok ([x21] : List (Int × Int × Int × (List Nat))))) fun runs_23 =>
    (R.seq (ρ := (List (Int × Int × Int × (List Nat)))) (forR (ρ := (List (Int × Int × Int × (List Nat)))) a_laying runs_23 fun (runs_26 : ((List (Int × Int × Int × (List Nat))))) (v27 : (Int × Int × (List Nat))) =>
    (R.bind ((R.bind (t__law_run grid_here_1 v27.1 v27.2.1 ((1 : Int) - line_12)) fun x29 => (appR runs_26 x29))) fun runs_28 =>
    (R.ok (.nx runs_28)))) fun l31 =>
    (R.bind (R.bind (R.ne (lcR l31 (fun v32 => R.ok (decide (((v32.2.2.2.length : Nat) : Int) > (1 : Int)))) fun v32 => R.ok v32)) fun x33 => R.ok x33) fun x35 => R.ok (.rt x35))))))
theorem tf__law_words : TF true false (fun a : ((List (List Nat)) × ((List (Int × Int × (List Nat))) × Unit)) => [(kTp D.str) a.1, (kTp (kT3 D.int D.int D.str)) a.2.1]) (kTp (kT4 D.int D.int D.int D.str)) F__law_words (fun a => t__law_words a.1 a.2.1) := by
  unfold F__law_words m__law_words m__law_words_e1 m__law_words_b0
  refine tf_mk4 (n := 9) (fs := [fun a : ((List (List Nat)) × ((List (Int × Int × (List Nat))) × Unit)) => (kTp D.str) a.1, fun a : ((List (List Nat)) × ((List (Int × Int × (List Nat))) × Unit)) => (kTp (kT3 D.int D.int D.str)) a.2.1]) (r := 7) (Qn := fun _ (_ : Unit) _ _ => True) (Ql := fun _ (_ : Unit) _ _ => True) (Qx := fun _ _ _ => True) ?hk ?h
  case hk => exact fun _ => rfl
  case h => exact ⟨_, (tb_set (k := (kLs (kLs D.str))) 2 (td_call (tad_cons (td_var (k := (kTp D.str)) (f := fun s : ((List (List Nat)) × ((List (Int × Int × (List Nat))) × Unit)) => s.1) 0 rfl) (tad_cons (td_var (k := (kTp (kT3 D.int D.int D.str))) (f := fun s : ((List (List Nat)) × ((List (Int × Int × (List Nat))) × Unit)) => s.2.1) 1 rfl) tad_nil)) tf__law_grid)
    (tb_set (k := D.int) 3 (td_fn (ta_cons (te_td (td_bin (te_td (td_prj (k := (kT3 D.int D.int D.str)) (l := D.int) (i := 0) (fun a : (Int × Int × (List Nat)) => a.1) (td_bin (te_td (td_var (k := (kTp (kT3 D.int D.int D.str))) (f := fun s : (((List (List Nat)) × ((List (Int × Int × (List Nat))) × Unit)) × (List (List (List Nat)))) => s.1.2.1) 1 rfl)) (te_td (td_k (k := D.int) (0 : Int))) o_ixT))) (te_td (td_prj (k := (kT3 D.int D.int D.str)) (l := D.int) (i := 0) (fun a : (Int × Int × (List Nat)) => a.1) (td_bin (te_td (td_var (k := (kTp (kT3 D.int D.int D.str))) (f := fun s : (((List (List Nat)) × ((List (Int × Int × (List Nat))) × Unit)) × (List (List (List Nat)))) => s.1.2.1) 1 rfl)) (te_td (td_un (te_td (td_k (k := D.int) (1 : Int))) o_neg)) o_ixT))) (o_ne (k := D.int)))) ta_nil) (o_intB))
    (tb_setC (k := (kLs (kT4 D.int D.int D.int D.str))) 4 (tc_lst (k := (kLs (kT4 D.int D.int D.int D.str))) (fun a : ((Int × Int × Int × (List Nat)) × Unit) => ([a.1] : List (Int × Int × Int × (List Nat)))) (tad_cons (td_call (tad_cons (td_var (k := (kLs (kLs D.str))) (f := fun s : ((((List (List Nat)) × ((List (Int × Int × (List Nat))) × Unit)) × (List (List (List Nat)))) × Int) => s.1.2) 2 rfl) (tad_cons (td_prj (k := (kT3 D.int D.int D.str)) (l := D.int) (i := 0) (fun a : (Int × Int × (List Nat)) => a.1) (td_bin (te_td (td_var (k := (kTp (kT3 D.int D.int D.str))) (f := fun s : ((((List (List Nat)) × ((List (Int × Int × (List Nat))) × Unit)) × (List (List (List Nat)))) × Int) => s.1.1.2.1) 1 rfl)) (te_td (td_k (k := D.int) (0 : Int))) o_ixT)) (tad_cons (td_prj (k := (kT3 D.int D.int D.str)) (l := D.int) (i := 1) (fun a : (Int × Int × (List Nat)) => a.2.1) (td_bin (te_td (td_var (k := (kTp (kT3 D.int D.int D.str))) (f := fun s : ((((List (List Nat)) × ((List (Int × Int × (List Nat))) × Unit)) × (List (List (List Nat)))) × Int) => s.1.1.2.1) 1 rfl)) (te_td (td_k (k := D.int) (0 : Int))) o_ixT)) (tad_cons (td_var (k := D.int) (f := fun s : ((((List (List Nat)) × ((List (Int × Int × (List Nat))) × Unit)) × (List (List (List Nat)))) × Int) => s.2) 3 rfl) tad_nil)))) tf__law_run) tad_nil)) (fun n_24 =>
    (tb_for (L' := ((List (Int × Int × Int × (List Nat))))) (δ := [.val (fun t : ((((((List (List Nat)) × ((List (Int × Int × (List Nat))) × Unit)) × (List (List (List Nat)))) × Int) × (List (Int × Int × Int × (List Nat)))) × ((List (Int × Int × Int × (List Nat))))) => (kTp D.str) t.1.1.1.1.1), .val (fun t : ((((((List (List Nat)) × ((List (Int × Int × (List Nat))) × Unit)) × (List (List (List Nat)))) × Int) × (List (Int × Int × Int × (List Nat)))) × ((List (Int × Int × Int × (List Nat))))) => (kTp (kT3 D.int D.int D.str)) t.1.1.1.1.2.1), .val (fun t : ((((((List (List Nat)) × ((List (Int × Int × (List Nat))) × Unit)) × (List (List (List Nat)))) × Int) × (List (Int × Int × Int × (List Nat)))) × ((List (Int × Int × Int × (List Nat))))) => (kLs (kLs D.str)) t.1.1.1.2), .val (fun t : ((((((List (List Nat)) × ((List (Int × Int × (List Nat))) × Unit)) × (List (List (List Nat)))) × Int) × (List (Int × Int × Int × (List Nat)))) × ((List (Int × Int × Int × (List Nat))))) => D.int t.1.1.2), .cel (some n_24) (fun t : ((((((List (List Nat)) × ((List (Int × Int × (List Nat))) × Unit)) × (List (List (List Nat)))) × Int) × (List (Int × Int × Int × (List Nat)))) × ((List (Int × Int × Int × (List Nat))))) => (kLs (kT4 D.int D.int D.int D.str)) t.2), .un, .un, .un, .un]) (kx := (kT3 D.int D.int D.str)) (ws := [(5, fun v : (Int × Int × (List Nat)) => D.int v.1), (6, fun v : (Int × Int × (List Nat)) => D.int v.2.1), (7, fun v : (Int × Int × (List Nat)) => D.str v.2.2)]) (fun s : (((((List (List Nat)) × ((List (Int × Int × (List Nat))) × Unit)) × (List (List (List Nat)))) × Int) × (List (Int × Int × Int × (List Nat)))) => s.2) (ti_tup (td_var (k := (kTp (kT3 D.int D.int D.str))) (f := fun s : (((((List (List Nat)) × ((List (Int × Int × (List Nat))) × Unit)) × (List (List (List Nat)))) × Int) × (List (Int × Int × Int × (List Nat)))) => s.1.1.1.2.1) 1 rfl)) (fun _ _ => rfl) (by exact ⟨(fun _ => rfl), ⟨(fun _ => rfl), ⟨(fun _ => rfl), ⟨(fun _ => rfl), ⟨⟨rfl, fun _ => rfl⟩, ⟨trivial, ⟨trivial, ⟨trivial, ⟨trivial, trivial⟩⟩⟩⟩⟩⟩⟩⟩⟩)
    (tb_last (tb_mutD (kc := (kLs (kT4 D.int D.int D.int D.str))) (f := fun s : (((((((List (List Nat)) × ((List (Int × Int × (List Nat))) × Unit)) × (List (List (List Nat)))) × Int) × (List (Int × Int × Int × (List Nat)))) × ((List (Int × Int × Int × (List Nat))))) × (Int × Int × (List Nat))) => s.1.2) 4 rfl (tad_cons (td_call (tad_cons (td_var (k := (kLs (kLs D.str))) (f := fun s : (((((((List (List Nat)) × ((List (Int × Int × (List Nat))) × Unit)) × (List (List (List Nat)))) × Int) × (List (Int × Int × Int × (List Nat)))) × ((List (Int × Int × Int × (List Nat))))) × (Int × Int × (List Nat))) => s.1.1.1.1.2) 2 rfl) (tad_cons (td_var (k := D.int) (f := fun s : (((((((List (List Nat)) × ((List (Int × Int × (List Nat))) × Unit)) × (List (List (List Nat)))) × Int) × (List (Int × Int × Int × (List Nat)))) × ((List (Int × Int × Int × (List Nat))))) × (Int × Int × (List Nat))) => s.2.1) 5 rfl) (tad_cons (td_var (k := D.int) (f := fun s : (((((((List (List Nat)) × ((List (Int × Int × (List Nat))) × Unit)) × (List (List (List Nat)))) × Int) × (List (Int × Int × Int × (List Nat)))) × ((List (Int × Int × Int × (List Nat))))) × (Int × Int × (List Nat))) => s.2.2.1) 6 rfl) (tad_cons (td_bin (te_td (td_k (k := D.int) (1 : Int))) (te_td (td_var (k := D.int) (f := fun s : (((((((List (List Nat)) × ((List (Int × Int × (List Nat))) × Unit)) × (List (List (List Nat)))) × Int) × (List (Int × Int × Int × (List Nat)))) × ((List (Int × Int × Int × (List Nat))))) × (Int × Int × (List Nat))) => s.1.1.1.2) 3 rfl)) o_sub) tad_nil)))) tf__law_run) tad_nil) ct_lst (o_appendD (k := (kT4 D.int D.int D.int D.str)))
    (tb_end (fun s : ((((((((List (List Nat)) × ((List (Int × Int × (List Nat))) × Unit)) × (List (List (List Nat)))) × Int) × (List (Int × Int × Int × (List Nat)))) × ((List (Int × Int × Int × (List Nat))))) × (Int × Int × (List Nat))) × (List (Int × Int × Int × (List Nat)))) => s.2) (fun s e μ E => Enc.wk (p := fun s : ((((((((List (List Nat)) × ((List (Int × Int × (List Nat))) × Unit)) × (List (List (List Nat)))) × Int) × (List (Int × Int × Int × (List Nat)))) × ((List (Int × Int × Int × (List Nat))))) × (Int × Int × (List Nat))) × (List (Int × Int × Int × (List Nat)))) => (s.1.1.1, s.2)) (by exact ⟨(fun _ => rfl), ⟨(fun _ => rfl), ⟨(fun _ => rfl), ⟨(fun _ => rfl), ⟨⟨rfl, fun _ => rfl⟩, ⟨trivial, ⟨trivial, ⟨trivial, ⟨trivial, trivial⟩⟩⟩⟩⟩⟩⟩⟩⟩) E)) (fun _ _ _ _ _ => trivial)))
    (tb_retD (td_fn (ta_cons (te_td (td_lc (x2 := false) (x3 := false) (ws := [(8, fun v : (Int × Int × Int × (List Nat)) => (kT4 D.int D.int D.int D.str) v)]) (kx := (kT4 D.int D.int D.int D.str)) (ky := (kT4 D.int D.int D.int D.str)) (own := [8]) (tw_cel (k := (kT4 D.int D.int D.int D.str)) (f := fun s : ((((((List (List Nat)) × ((List (Int × Int × (List Nat))) × Unit)) × (List (List (List Nat)))) × Int) × (List (Int × Int × Int × (List Nat)))) × ((List (Int × Int × Int × (List Nat))))) => s.2) 4 rfl) (fun _ _ => rfl) (tt_val (k := D.bl) (td_bin (te_td (td_fn (ta_cons (te_td (td_prj (k := (kT4 D.int D.int D.int D.str)) (l := D.str) (i := 3) (fun a : (Int × Int × Int × (List Nat)) => a.2.2.2) (td_var (k := (kT4 D.int D.int D.int D.str)) (f := fun s : (((((((List (List Nat)) × ((List (Int × Int × (List Nat))) × Unit)) × (List (List (List Nat)))) × Int) × (List (Int × Int × Int × (List Nat)))) × ((List (Int × Int × Int × (List Nat))))) × (Int × Int × Int × (List Nat))) => s.2) 8 rfl))) ta_nil) (o_lenS))) (te_td (td_k (k := D.int) (1 : Int))) (o_gt))) (td_var (k := (kT4 D.int D.int D.int D.str)) (f := fun s : (((((((List (List Nat)) × ((List (Int × Int × (List Nat))) × Unit)) × (List (List (List Nat)))) × Int) × (List (Int × Int × Int × (List Nat)))) × ((List (Int × Int × Int × (List Nat))))) × (Int × Int × Int × (List Nat))) => s.2) 8 rfl))) ta_nil) (o_tupleL (k := (kT4 D.int D.int D.int D.str)))) qr_f (fun _ _ _ _ _ => trivial)) (fun _ _ _ _ _ => trivial))) (fun _ _ _ _ _ => trivial)) (fun _ _ _ _ _ => trivial)) (fun _ _ _ _ _ => trivial)), fun a => by simp only [t__law_words, R.bind_ok]⟩
noncomputable def t_formed (a_board : Ty_Board) (a_laying : (List (Int × Int × (List Nat)))) : R (List (Int × Int × Int × (List Nat))) := R.fin (N := Unit) (L := Unit) (ρ := (List (Int × Int × Int × (List Nat))))
    (R.bind ((t_Board_laid a_board a_laying)) fun after_36 =>
    (R.bind ((t_way_of a_laying)) fun line_37 =>
    (R.bind ((R.bind (R.bind (R.bind (atR a_laying (0 : Int)) fun x38 => R.ok (x38, line_37)) fun x40 => R.ok ([x40] : List ((Int × Int × (List Nat)) × Int))) fun x43 => (R.bind (R.ne (lcR a_laying (fun v42 => R.ok true) fun v42 => R.ok (v42, ((1 : Int) - line_37)))) fun x44 => (addR x43 x44)))) fun asked_47 =>
    (R.bind (R.ok ([] : List (Int × Int × Int × (List Nat)))) fun found_48 =>
    (R.seq (ρ := (List (Int × Int × Int × (List Nat)))) (forR (ρ := (List (Int × Int × Int × (List Nat)))) asked_47 found_48 fun (found_51 : ((List (Int × Int × Int × (List Nat))))) (v52 : ((Int × Int × (List Nat)) × Int)) =>
    (R.bind ((t_Board_run after_36 v52.1.1 v52.1.2.1 v52.2)) fun p53 =>
    (if (decide (((p53.2.2.length : Nat) : Int) > (1 : Int))) then (R.bind ((appR found_51 (p53.1, p53.2.1, v52.2, p53.2.2))) fun found_54 =>
    (R.ok (.nx found_54)))
    else (R.ok (.nx found_51))))) fun l55 =>
    (R.ok (.rt l55)))))))
theorem tf_formed : TF true false (fun a : (Ty_Board × ((List (Int × Int × (List Nat))) × Unit)) => [(kObj 0 kf_Board) a.1, (kTp (kT3 D.int D.int D.str)) a.2.1]) (kTp (kT4 D.int D.int D.int D.str)) F_formed (fun a => t_formed a.1 a.2.1) := by
  unfold F_formed m_formed m_formed_b1 m_formed_e0
  refine tf_mk4 (n := 11) (fs := [fun a : (Ty_Board × ((List (Int × Int × (List Nat))) × Unit)) => (kObj 0 kf_Board) a.1, fun a : (Ty_Board × ((List (Int × Int × (List Nat))) × Unit)) => (kTp (kT3 D.int D.int D.str)) a.2.1]) (r := 9) (Qn := fun _ (_ : Unit) _ _ => True) (Ql := fun _ (_ : Unit) _ _ => True) (Qx := fun _ _ _ => True) ?hk ?h
  case hk => exact fun _ => rfl
  case h => exact ⟨_, (tb_set (k := (kObj 0 kf_Board)) 2 (td_meth (ko := kf_Board) (td_var (k := (kObj 0 kf_Board)) (f := fun s : (Ty_Board × ((List (Int × Int × (List Nat))) × Unit)) => s.1) 0 rfl) (tad_cons (td_var (k := (kTp (kT3 D.int D.int D.str))) (f := fun s : (Ty_Board × ((List (Int × Int × (List Nat))) × Unit)) => s.2.1) 1 rfl) tad_nil) tf_Board_laid)
    (tb_set (k := D.int) 3 (td_call (tad_cons (td_var (k := (kTp (kT3 D.int D.int D.str))) (f := fun s : ((Ty_Board × ((List (Int × Int × (List Nat))) × Unit)) × Ty_Board) => s.1.2.1) 1 rfl) tad_nil) tf_way_of)
    (tb_set (k := (kLs (kT2 (kT3 D.int D.int D.str) D.int))) 4 (td_bin (te_td (td_lst (k := (kLs (kT2 (kT3 D.int D.int D.str) D.int))) (fun a : (((Int × Int × (List Nat)) × Int) × Unit) => ([a.1] : List ((Int × Int × (List Nat)) × Int))) (tad_cons (td_tup (k := (kT2 (kT3 D.int D.int D.str) D.int)) (fun a : ((Int × Int × (List Nat)) × (Int × Unit)) => (a.1, a.2.1)) (tad_cons (td_bin (te_td (td_var (k := (kTp (kT3 D.int D.int D.str))) (f := fun s : (((Ty_Board × ((List (Int × Int × (List Nat))) × Unit)) × Ty_Board) × Int) => s.1.1.2.1) 1 rfl)) (te_td (td_k (k := D.int) (0 : Int))) o_ixT) (tad_cons (td_var (k := D.int) (f := fun s : (((Ty_Board × ((List (Int × Int × (List Nat))) × Unit)) × Ty_Board) × Int) => s.2) 3 rfl) tad_nil))) tad_nil))) (te_td (td_lc (x2 := false) (x3 := false) (ws := [(6, fun v : (Int × Int × (List Nat)) => (kT3 D.int D.int D.str) v)]) (kx := (kT3 D.int D.int D.str)) (ky := (kT2 (kT3 D.int D.int D.str) D.int)) (own := [6]) (tw_ti (ti_tup (td_var (k := (kTp (kT3 D.int D.int D.str))) (f := fun s : (((Ty_Board × ((List (Int × Int × (List Nat))) × Unit)) × Ty_Board) × Int) => s.1.1.2.1) 1 rfl))) (fun _ _ => rfl) tt_true (td_tup (k := (kT2 (kT3 D.int D.int D.str) D.int)) (fun a : ((Int × Int × (List Nat)) × (Int × Unit)) => (a.1, a.2.1)) (tad_cons (td_var (k := (kT3 D.int D.int D.str)) (f := fun s : ((((Ty_Board × ((List (Int × Int × (List Nat))) × Unit)) × Ty_Board) × Int) × (Int × Int × (List Nat))) => s.2) 6 rfl) (tad_cons (td_bin (te_td (td_k (k := D.int) (1 : Int))) (te_td (td_var (k := D.int) (f := fun s : ((((Ty_Board × ((List (Int × Int × (List Nat))) × Unit)) × Ty_Board) × Int) × (Int × Int × (List Nat))) => s.1.2) 3 rfl)) o_sub) tad_nil))))) o_addL)
    (tb_setC (k := (kLs (kT4 D.int D.int D.int D.str))) 5 (tc_lst (k := (kLs (kT4 D.int D.int D.int D.str))) (fun a : Unit => ([] : List (Int × Int × Int × (List Nat)))) tad_nil) (fun n_49 =>
    (tb_for (L' := ((List (Int × Int × Int × (List Nat))))) (δ := [.val (fun t : ((((((Ty_Board × ((List (Int × Int × (List Nat))) × Unit)) × Ty_Board) × Int) × (List ((Int × Int × (List Nat)) × Int))) × (List (Int × Int × Int × (List Nat)))) × ((List (Int × Int × Int × (List Nat))))) => (kObj 0 kf_Board) t.1.1.1.1.1.1), .val (fun t : ((((((Ty_Board × ((List (Int × Int × (List Nat))) × Unit)) × Ty_Board) × Int) × (List ((Int × Int × (List Nat)) × Int))) × (List (Int × Int × Int × (List Nat)))) × ((List (Int × Int × Int × (List Nat))))) => (kTp (kT3 D.int D.int D.str)) t.1.1.1.1.1.2.1), .val (fun t : ((((((Ty_Board × ((List (Int × Int × (List Nat))) × Unit)) × Ty_Board) × Int) × (List ((Int × Int × (List Nat)) × Int))) × (List (Int × Int × Int × (List Nat)))) × ((List (Int × Int × Int × (List Nat))))) => (kObj 0 kf_Board) t.1.1.1.1.2), .val (fun t : ((((((Ty_Board × ((List (Int × Int × (List Nat))) × Unit)) × Ty_Board) × Int) × (List ((Int × Int × (List Nat)) × Int))) × (List (Int × Int × Int × (List Nat)))) × ((List (Int × Int × Int × (List Nat))))) => D.int t.1.1.1.2), .val (fun t : ((((((Ty_Board × ((List (Int × Int × (List Nat))) × Unit)) × Ty_Board) × Int) × (List ((Int × Int × (List Nat)) × Int))) × (List (Int × Int × Int × (List Nat)))) × ((List (Int × Int × Int × (List Nat))))) => (kLs (kT2 (kT3 D.int D.int D.str) D.int)) t.1.1.2), .cel (some n_49) (fun t : ((((((Ty_Board × ((List (Int × Int × (List Nat))) × Unit)) × Ty_Board) × Int) × (List ((Int × Int × (List Nat)) × Int))) × (List (Int × Int × Int × (List Nat)))) × ((List (Int × Int × Int × (List Nat))))) => (kLs (kT4 D.int D.int D.int D.str)) t.2), .un, .un, .un, .un, .un]) (kx := (kT2 (kT3 D.int D.int D.str) D.int)) (ws := [(6, fun v : ((Int × Int × (List Nat)) × Int) => (kT3 D.int D.int D.str) v.1), (7, fun v : ((Int × Int × (List Nat)) × Int) => D.int v.2)]) (fun s : (((((Ty_Board × ((List (Int × Int × (List Nat))) × Unit)) × Ty_Board) × Int) × (List ((Int × Int × (List Nat)) × Int))) × (List (Int × Int × Int × (List Nat)))) => s.2) (ti_lst (td_var (k := (kLs (kT2 (kT3 D.int D.int D.str) D.int))) (f := fun s : (((((Ty_Board × ((List (Int × Int × (List Nat))) × Unit)) × Ty_Board) × Int) × (List ((Int × Int × (List Nat)) × Int))) × (List (Int × Int × Int × (List Nat)))) => s.1.2) 4 rfl)) (fun _ _ => rfl) (by exact ⟨(fun _ => rfl), ⟨(fun _ => rfl), ⟨(fun _ => rfl), ⟨(fun _ => rfl), ⟨(fun _ => rfl), ⟨⟨rfl, fun _ => rfl⟩, ⟨trivial, ⟨trivial, ⟨trivial, ⟨trivial, ⟨trivial, trivial⟩⟩⟩⟩⟩⟩⟩⟩⟩⟩⟩)
    (tb_asg (k := (kT3 D.int D.int D.str)) (ws := [(8, fun v : (Int × Int × (List Nat)) => D.int v.1), (9, fun v : (Int × Int × (List Nat)) => D.int v.2.1), (10, fun v : (Int × Int × (List Nat)) => D.str v.2.2)]) (td_meth (ko := kf_Board) (td_var (k := (kObj 0 kf_Board)) (f := fun s : (((((((Ty_Board × ((List (Int × Int × (List Nat))) × Unit)) × Ty_Board) × Int) × (List ((Int × Int × (List Nat)) × Int))) × (List (Int × Int × Int × (List Nat)))) × ((List (Int × Int × Int × (List Nat))))) × ((Int × Int × (List Nat)) × Int)) => s.1.1.1.1.1.2) 2 rfl) (tad_cons (td_prj (k := (kT3 D.int D.int D.str)) (l := D.int) (i := 0) (fun a : (Int × Int × (List Nat)) => a.1) (td_var (k := (kT3 D.int D.int D.str)) (f := fun s : (((((((Ty_Board × ((List (Int × Int × (List Nat))) × Unit)) × Ty_Board) × Int) × (List ((Int × Int × (List Nat)) × Int))) × (List (Int × Int × Int × (List Nat)))) × ((List (Int × Int × Int × (List Nat))))) × ((Int × Int × (List Nat)) × Int)) => s.2.1) 6 rfl)) (tad_cons (td_prj (k := (kT3 D.int D.int D.str)) (l := D.int) (i := 1) (fun a : (Int × Int × (List Nat)) => a.2.1) (td_var (k := (kT3 D.int D.int D.str)) (f := fun s : (((((((Ty_Board × ((List (Int × Int × (List Nat))) × Unit)) × Ty_Board) × Int) × (List ((Int × Int × (List Nat)) × Int))) × (List (Int × Int × Int × (List Nat)))) × ((List (Int × Int × Int × (List Nat))))) × ((Int × Int × (List Nat)) × Int)) => s.2.1) 6 rfl)) (tad_cons (td_var (k := D.int) (f := fun s : (((((((Ty_Board × ((List (Int × Int × (List Nat))) × Unit)) × Ty_Board) × Int) × (List ((Int × Int × (List Nat)) × Int))) × (List (Int × Int × Int × (List Nat)))) × ((List (Int × Int × Int × (List Nat))))) × ((Int × Int × (List Nat)) × Int)) => s.2.2) 7 rfl) tad_nil))) tf_Board_run) (fun _ _ => rfl)
    (tb_if (tt_val (k := D.bl) (td_bin (te_td (td_fn (ta_cons (te_td (td_var (k := D.str) (f := fun s : ((((((((Ty_Board × ((List (Int × Int × (List Nat))) × Unit)) × Ty_Board) × Int) × (List ((Int × Int × (List Nat)) × Int))) × (List (Int × Int × Int × (List Nat)))) × ((List (Int × Int × Int × (List Nat))))) × ((Int × Int × (List Nat)) × Int)) × (Int × Int × (List Nat))) => s.2.2.2) 10 rfl)) ta_nil) (o_lenS))) (te_td (td_k (k := D.int) (1 : Int))) (o_gt)))
    (tb_last (tb_mutD (kc := (kLs (kT4 D.int D.int D.int D.str))) (f := fun s : ((((((((Ty_Board × ((List (Int × Int × (List Nat))) × Unit)) × Ty_Board) × Int) × (List ((Int × Int × (List Nat)) × Int))) × (List (Int × Int × Int × (List Nat)))) × ((List (Int × Int × Int × (List Nat))))) × ((Int × Int × (List Nat)) × Int)) × (Int × Int × (List Nat))) => s.1.1.2) 5 rfl (tad_cons (td_tup (k := (kT4 D.int D.int D.int D.str)) (fun a : (Int × (Int × (Int × ((List Nat) × Unit)))) => (a.1, a.2.1, a.2.2.1, a.2.2.2.1)) (tad_cons (td_var (k := D.int) (f := fun s : ((((((((Ty_Board × ((List (Int × Int × (List Nat))) × Unit)) × Ty_Board) × Int) × (List ((Int × Int × (List Nat)) × Int))) × (List (Int × Int × Int × (List Nat)))) × ((List (Int × Int × Int × (List Nat))))) × ((Int × Int × (List Nat)) × Int)) × (Int × Int × (List Nat))) => s.2.1) 8 rfl) (tad_cons (td_var (k := D.int) (f := fun s : ((((((((Ty_Board × ((List (Int × Int × (List Nat))) × Unit)) × Ty_Board) × Int) × (List ((Int × Int × (List Nat)) × Int))) × (List (Int × Int × Int × (List Nat)))) × ((List (Int × Int × Int × (List Nat))))) × ((Int × Int × (List Nat)) × Int)) × (Int × Int × (List Nat))) => s.2.2.1) 9 rfl) (tad_cons (td_var (k := D.int) (f := fun s : ((((((((Ty_Board × ((List (Int × Int × (List Nat))) × Unit)) × Ty_Board) × Int) × (List ((Int × Int × (List Nat)) × Int))) × (List (Int × Int × Int × (List Nat)))) × ((List (Int × Int × Int × (List Nat))))) × ((Int × Int × (List Nat)) × Int)) × (Int × Int × (List Nat))) => s.1.2.2) 7 rfl) (tad_cons (td_var (k := D.str) (f := fun s : ((((((((Ty_Board × ((List (Int × Int × (List Nat))) × Unit)) × Ty_Board) × Int) × (List ((Int × Int × (List Nat)) × Int))) × (List (Int × Int × Int × (List Nat)))) × ((List (Int × Int × Int × (List Nat))))) × ((Int × Int × (List Nat)) × Int)) × (Int × Int × (List Nat))) => s.2.2.2) 10 rfl) tad_nil))))) tad_nil) ct_lst (o_appendD (k := (kT4 D.int D.int D.int D.str)))
    (tb_end (fun s : (((((((((Ty_Board × ((List (Int × Int × (List Nat))) × Unit)) × Ty_Board) × Int) × (List ((Int × Int × (List Nat)) × Int))) × (List (Int × Int × Int × (List Nat)))) × ((List (Int × Int × Int × (List Nat))))) × ((Int × Int × (List Nat)) × Int)) × (Int × Int × (List Nat))) × (List (Int × Int × Int × (List Nat)))) => s.2) (fun s e μ E => Enc.wk (p := fun s : (((((((((Ty_Board × ((List (Int × Int × (List Nat))) × Unit)) × Ty_Board) × Int) × (List ((Int × Int × (List Nat)) × Int))) × (List (Int × Int × Int × (List Nat)))) × ((List (Int × Int × Int × (List Nat))))) × ((Int × Int × (List Nat)) × Int)) × (Int × Int × (List Nat))) × (List (Int × Int × Int × (List Nat)))) => (s.1.1.1.1, s.2)) (by exact ⟨(fun _ => rfl), ⟨(fun _ => rfl), ⟨(fun _ => rfl), ⟨(fun _ => rfl), ⟨(fun _ => rfl), ⟨⟨rfl, fun _ => rfl⟩, ⟨trivial, ⟨trivial, ⟨trivial, ⟨trivial, ⟨trivial, trivial⟩⟩⟩⟩⟩⟩⟩⟩⟩⟩⟩) E)) (fun _ _ _ _ _ => trivial)))
    (tb_end (fun s : ((((((((Ty_Board × ((List (Int × Int × (List Nat))) × Unit)) × Ty_Board) × Int) × (List ((Int × Int × (List Nat)) × Int))) × (List (Int × Int × Int × (List Nat)))) × ((List (Int × Int × Int × (List Nat))))) × ((Int × Int × (List Nat)) × Int)) × (Int × Int × (List Nat))) => s.1.1.2) (fun s e μ E => Enc.wk (p := fun s : ((((((((Ty_Board × ((List (Int × Int × (List Nat))) × Unit)) × Ty_Board) × Int) × (List ((Int × Int × (List Nat)) × Int))) × (List (Int × Int × Int × (List Nat)))) × ((List (Int × Int × Int × (List Nat))))) × ((Int × Int × (List Nat)) × Int)) × (Int × Int × (List Nat))) => (s.1.1.1, s.1.1.2)) (by exact ⟨(fun _ => rfl), ⟨(fun _ => rfl), ⟨(fun _ => rfl), ⟨(fun _ => rfl), ⟨(fun _ => rfl), ⟨⟨rfl, fun _ => rfl⟩, ⟨trivial, ⟨trivial, ⟨trivial, ⟨trivial, ⟨trivial, trivial⟩⟩⟩⟩⟩⟩⟩⟩⟩⟩⟩) E)) (fun _ _ _ _ _ => trivial)) (fun _ _ _ _ _ => trivial))
    (tb_retD (td_fn (ta_cons (te_cel (k := (kLs (kT4 D.int D.int D.int D.str))) (f := fun s : ((((((Ty_Board × ((List (Int × Int × (List Nat))) × Unit)) × Ty_Board) × Int) × (List ((Int × Int × (List Nat)) × Int))) × (List (Int × Int × Int × (List Nat)))) × ((List (Int × Int × Int × (List Nat))))) => s.2) 5 rfl) ta_nil) (o_tupleL (k := (kT4 D.int D.int D.int D.str)))) qr_f (fun _ _ _ _ _ => trivial)) (fun _ _ _ _ _ => trivial))) (fun _ _ _ _ _ => trivial)) (fun _ _ _ _ _ => trivial)) (fun _ _ _ _ _ => trivial)) (fun _ _ _ _ _ => trivial)), fun a => by simp only [t_formed, R.bind_ok]⟩
end T20

namespace T20
open PySem L2 Lr
local macro_rules | `(tactic| walk_at "d") => `(tactic| first | assumption | exact isT_s | exact isT_r rfl | omega | (refine len_le ?_; omega) | (refine fuel_lt ?_; omega) | (simp only [lowL_len, upL_len, bothL_len, List.length_cons, List.length_nil, List.length_append, List.length_map, List.length_reverse, List.length_take, List.length_drop, List.length_replicate, chL_len, List.length_set, List.length_range, rangeD_len, rangeC_len] <;> omega) | (refine len_le ?_; simp only [lowL_len, upL_len, bothL_len, List.length_cons, List.length_nil, List.length_append, List.length_map, List.length_reverse, List.length_take, List.length_drop, List.length_replicate, chL_len, List.length_set, List.length_range, rangeD_len, rangeC_len] <;> omega) | (refine fuel_lt ?_; simp only [lowL_len, upL_len, bothL_len, List.length_cons, List.length_nil, List.length_append, List.length_map, List.length_reverse, List.length_take, List.length_drop, List.length_replicate, chL_len, List.length_set, List.length_range, rangeD_len, rangeC_len] <;> omega) | (refine len_lt ?_; simp only [lowL_len, upL_len, bothL_len, List.length_cons, List.length_nil, List.length_append, List.length_map, List.length_reverse, List.length_take, List.length_drop, List.length_replicate, chL_len, List.length_set, List.length_range, rangeD_len, rangeC_len] <;> omega) | decide | rfl)
local macro_rules | `(tactic| walk_at "ev") => `(tactic| simp (disch := walk_at "d") only [
  bodyF_eq, List.map_cons, List.map_nil, List.length_cons, List.length_nil, List.replicate_succ, List.replicate_zero, List.cons_append, List.nil_append, List.append_nil, Nat.reduceSub, Nat.reduceAdd, Nat.zero_add, Nat.sub_self,
  List.getElem?_cons_zero, List.getElem?_cons_succ, List.set_cons_zero, List.set_cons_succ, List.replicate,
  e_K, e_V, e_B, e_B1, e_B2, e_U, e_U1, e_nil, e_cons, e_cons1, e_cons2, e_F, e_F1, e_tup, e_tup1, e_lst, e_lst1, e_tVal, e_tVal1, e_tNot, e_tNot1, e_tAnd, e_tAndT, e_tAndF, e_tOr, e_tOrT, e_tOrF,
  e_and, e_andT, e_andF, e_or, e_orT, e_orF, e_not, e_if, e_ifT, e_ifF, e_ch, e_ch1, e_ch2, e_chT, e_chF, e_ch4, e_oNone, e_oSome, e_oSome1, e_sl, e_sl1, e_sl2, e_sl3, e_slK, e_slK1, e_slK2, e_slK3, e_M, e_M1, e_M2, e_Mt, e_Mt1, e_Mt1r, e_Mt2,
  e_next, e_seq, e_seq_nx, e_seq_rt, e_seq_bk, e_seq_ct, e_expr, e_expr1, e_ret, e_ret1, e_retN, e_brk, e_cnt, e_sno, e_sif, e_sifT, e_sifF, e_set, e_set1, e_asg, e_for, e_for1, e_while, e_sub, e_sub1, e_sub2, e_tTrue, e_lc, e_lc1, e_lc2, e_iVal, e_iValS, e_iValT, e_iValL, e_iValC, e_range1, e_range1', e_range2, e_range2', mkL_f, mkL_t, setT_nm, e_aug, e_aug1, e_fl, e_fl1,
  d_div, d_mod, d_sub, d_add, d_addS, d_addL, d_addT, d_neg, d_ixS, d_ixT, d_ixL, d_ixC, d_slS, d_slT, d_slL, d_slC, d_slKS, cutL_map, d_ltI, d_leI, d_gtI, d_geI, d_lenS, d_lenT, d_lenL, d_lenC, d_inS, d_notInS, d_eqI, d_neI, d_eqS, d_neS, d_eqB, d_neB,
  d_isB, d_isNotB, e_flO, kFlo1, cast2, cast3, cast4, cast5, cast6, cast7, cast8, cast9, cast10, cast11, cast12, List.length_map, m_append, kApp1, d_lenR, kLen1, d_slR, kSl1, d_pow1020, d_mulS, d_mul1, d_mul2, d_intB, d_intI, d_max2, d_min2, d_tupleL, d_tupleT, d_listT, d_listL, d_fldO, m_joinC, e_range3, e_asg2, kAs1, setT_tp, setTs_cons, setTs_nil, kTs1, chL_len, isi_bool_str, isi_bool_tup, isi_list_tup, isi_list_str,
  isi_str_str, isi_str_int, isi_str_bl, isi_str_non, isi_str_tup, isi_str_lst, isi_bool_bl, isi_bool_int, isi_int_int, isi_int_bl, isi_int_str, isi_int_non, isi_int_tup, isi_int_lst, isi_tuple_tup, isi_tuple_str, isi_tuple_int, isi_tuple_bl, isi_tuple_non, isi_tuple_lst, isi_list_lst,
  ofOt_rt, ofOt_nx, ofOt_xc, ofOt_ite, isT_str, beq_self_eq_true, m_lower1, m_upper1, Bool.not_true, Bool.not_false, decide_true, decide_false, cast_lit, Int.natCast_one, Int.natCast_zero, Int.natCast_add, Int.reduceEq, Int.reduceLT, Int.reduceLE, Int.reduceAdd, Int.reduceSub, Int.reduceMul, Int.reduceDiv, Int.reduceMod, Int.reduceToNat, Int.reduceNeg, Int.toNat_zero, Int.toNat_one, eq_self, List.cons.injEq, *])
theorem zip_map (ps : List (D × D)) : pairsD (ps.map (·.1)) (ps.map (·.2)) = ps.map fun p => .tup [p.1, p.2] := by
  induction ps with
  | nil => rfl
  | cons p ps ih => show _ :: pairsD _ _ = _; rw [ih]; rfl
theorem alk_int (R : GF) (a b : Int) (μ : Mu) : pureC (bodyF 4 (m__law_alike R)) [.int a, .int b] μ = .ok (.bl (decide (a = b)), μ) := by
  refine pureC_nr (μ' := []) ?_ rfl rfl
  unfold m__law_alike
  walk_at "ev"
theorem alk_str (R : GF) (a b : List Nat) (μ : Mu) : pureC (bodyF 4 (m__law_alike R)) [.str a, .str b] μ = .ok (.bl (decide (a = b)), μ) := by
  refine pureC_nr (μ' := []) ?_ rfl rfl
  unfold m__law_alike
  walk_at "ev"
theorem alk_tup0 (R : GF) (ps : List (D × D)) (r : D × D → Bool) (hl : ps.length ≤ lineN) (hn : nrs (ps.map (·.1)) = true ∧ nrs (ps.map (·.2)) = true) (h : ∀ p ∈ ps, ∀ μ, pureC R [p.1, p.2] μ = .ok (.bl (r p), μ)) :
    bodyF 4 (m__law_alike R) [.tup (ps.map (·.1)), .tup (ps.map (·.2))] [] = .ok (.bl (ps.all r), []) := by
  have lc := lcGo_of (T := .tp [.nm 2, .nm 3]) (elt := m__law_alike_e0 R) (xs := ps) (f := fun p => .tup [p.1, p.2]) (g := fun p => D.bl (r p)) (env := [some (.tup (ps.map (·.1))), some (.tup (ps.map (·.2))), none, none]) (μ := []) (fu := fuel) (Nat.lt_of_le_of_lt hl (by have := fuel_ge; unfold lineN; omega)) hl fun p hp => ⟨[some (.tup (ps.map (·.1))), some (.tup (ps.map (·.2))), some p.1, some p.2], rfl, by
    unfold m__law_alike_e0
    have := h p hp []
    walk_at "ev"⟩
  have z := zip_map ps
  have lb : bsOf (ps.map fun p => D.bl (r p)) = some (ps.map r) := by rw [← bsOf_map, List.map_map]; rfl
  have e3 : (cLc false (.tp [(.nm 2), (.nm 3)]) (iZip (cCons (cV 0) (cCons (cV 1) cNil))) tTrue (m__law_alike_e0 R) [2, 3]) [some (.tup (ps.map (·.1))), some (.tup (ps.map (·.2))), none, none] [] = .ok (.lst (ps.map fun p => D.bl (r p)), []) := by
    unfold cLc
    have : iZip (cCons (cV 0) (cCons (cV 1) cNil)) [some (.tup (ps.map (·.1))), some (.tup (ps.map (·.2))), none, none] [] = .ok (.fix (pairsD (ps.map (·.1)) (ps.map (·.2))), []) := rfl
    rw [this, z]
    show (lcGo _ _ _ _ (wp0 [2, 3] [some (.tup (ps.map (·.1))), some (.tup (ps.map (·.2))), none, none]) _ 0 [] []).bind _ = _
    have w : wp0 [2, 3] [some (.tup (ps.map (·.1))), some (.tup (ps.map (·.2))), none, none] = [some (.tup (ps.map (·.1))), some (.tup (ps.map (·.2))), none, none] := rfl
    rw [w, lc]; rfl
  have e4 : (dBools fun bs => bs.all id) [.lst (ps.map fun p => D.bl (r p))] [] = .ok (.bl (ps.all r), []) := by
    show (match bsOf (ps.map fun p => D.bl (r p)) with | some bs => _ | none => _) = _
    rw [lb]
    show Res.ok (D.bl ((ps.map r).all id), _) = _
    rw [List.all_map]; rfl
  unfold m__law_alike
  have ln : ((((ps.map (·.1)).length : Nat) : Int) = (((ps.map (·.2)).length : Nat) : Int)) := by rw [List.length_map, List.length_map]
  generalize hm : cLc false (.tp [(.nm 2), (.nm 3)]) (iZip (cCons (cV 0) (cCons (cV 1) cNil))) tTrue (m__law_alike_e0 R) [2, 3] = lcm at e3
  generalize hb : (dBools fun bs => bs.all id) = db at e4
  generalize hx : ps.map (·.1) = xs at *
  generalize hy : ps.map (·.2) = ys at *
  have hd : decide (((xs.length : Nat) : Int) = ((ys.length : Nat) : Int)) = true := decide_eq_true ln
  clear lc z lb hm hb hx hy ln hn h
  walk_at "ev"
theorem alk_tup (R : GF) (ps : List (D × D)) (r : D × D → Bool) (hl : ps.length ≤ lineN) (hn : nrs (ps.map (·.1)) = true ∧ nrs (ps.map (·.2)) = true) (h : ∀ p ∈ ps, ∀ μ, pureC R [p.1, p.2] μ = .ok (.bl (r p), μ)) (μ : Mu) :
    pureC (bodyF 4 (m__law_alike R)) [.tup (ps.map (·.1)), .tup (ps.map (·.2))] μ = .ok (.bl (ps.all r), μ) :=
  pureC_nr (μ' := []) (alk_tup0 R ps r hl hn h) (by rw [nrs_cons, nrs_cons, show nr (.tup (ps.map (·.1))) = true from hn.1, show nr (.tup (ps.map (·.2))) = true from hn.2]; rfl) rfl
abbrev T4 := Int × Int × Int × List Nat
theorem alk_4 (R : GF) (x : T4) (μ : Mu) : pureC (bodyF 4 (m__law_alike (bodyF 4 (m__law_alike R)))) [kT4 D.int D.int D.int D.str x, kT4 D.int D.int D.int D.str x] μ = .ok (.bl true, μ) := by
  obtain ⟨a, b, c, w⟩ := x
  refine alk_tup (bodyF 4 (m__law_alike R)) [(.int a, .int a), (.int b, .int b), (.int c, .int c), (.str w, .str w)] (fun _ => true) (by show 4 ≤ lineN; unfold lineN; omega) ⟨rfl, rfl⟩ (fun p hp μ => ?_) μ
  simp only [List.mem_cons, List.not_mem_nil, or_false] at hp
  rcases hp with rfl | rfl | rfl | rfl
  · rw [alk_int]; simp
  · rw [alk_int]; simp
  · rw [alk_int]; simp
  · rw [alk_str]; simp
noncomputable def t__law_alike (a b : List T4) : R Bool := if a = b then R.gd (a.length ≤ lineN) (.ok true) else .no
theorem tf__law_alike : TF true false (fun a : (List T4 × (List T4 × Unit)) => [(kTp (kT4 D.int D.int D.int D.str)) a.1, (kTp (kT4 D.int D.int D.int D.str)) a.2.1]) D.bl F__law_alike (fun a => t__law_alike a.1 a.2.1) := fun ⟨a, b, _⟩ => by
  dsimp only
  unfold t__law_alike
  split
  · rename_i h
    subst h
    refine Sim.gd fun hl => ?_
    refine ⟨.bl true, [], ?_, rfl, fun _ => rfl⟩
    have e := alk_tup0 (R__law_alike 11) (a.map fun x => (kT4 D.int D.int D.int D.str x, kT4 D.int D.int D.int D.str x)) (fun _ => true) (by rw [List.length_map]; exact hl) (by
      constructor <;> (rw [List.map_map]; exact nrs_map fun x _ => rfl)) fun p hp μ => by
        obtain ⟨x, _, rfl⟩ := List.mem_map.mp hp
        exact alk_4 (R__law_alike 9) x μ
    rw [List.map_map, List.map_map] at e
    rw [show (a.map fun x => (kT4 D.int D.int D.int D.str x, kT4 D.int D.int D.int D.str x)).all (fun _ => true) = true by simp] at e
    exact e
  · trivial
end T20

namespace T20
open PySem L2 Lr
noncomputable def t_law (a_script : (List Int)) : R Bool := R.fin (N := Unit) (L := Unit) (ρ := Bool)
    (R.bind ((R.bind (t__law_cell_at a_script (0 : Int)) fun x1 => (t__law_letters x1))) fun letters_here_3 =>
    (R.bind ((t__law_rows a_script letters_here_3)) fun rows_here_4 =>
    (R.bind ((R.bind (R.bind (t__law_cell_at a_script (2 : Int)) fun x5 => (t__law_marks rows_here_4 x5)) fun x7 => (t_Board rows_here_4 x7 ((0 : Int), (0 : Int))))) fun board_9 =>
    (R.seq (ρ := Bool) (forR (ρ := Bool) (cutL a_script (some (3 : Int)) (some (63 : Int))) () fun (l11 : (Unit)) (cell_12 : Int) =>
    (R.bind ((R.bind (t__law_draw cell_12 (1 : Int)) fun x13 => (t__law_straight rows_here_4 x13 letters_here_3 ((1 : Int) + (cell_12 % (7 : Int)))))) fun laying_15 =>
    (R.bind ((t__law_words rows_here_4 laying_15)) fun due_16 =>
    (R.bind (R.bind (R.bind (t_formed board_9 laying_15) fun x17 => (t__law_alike x17 due_16)) fun x19 => R.ok (!x19)) fun x28 => if x28 then (R.ok (.rt false))
    else (R.bind (R.bind (R.bind (R.bind (t_formed board_9 laying_15) fun x21 => (t__law_alike x21 due_16)) fun x23 => R.ok (!x23)) fun x25 => (if x25 then R.ok true else R.ok (!decide (board_9.1 = rows_here_4)))) fun x27 => if x27 then (R.ok (.rt false))
    else (R.ok (.nx ()))))))) fun l29 =>
    (R.ok (.rt true))))))
theorem tf_law : TF true false (fun a : ((List Int) × Unit) => [kScr a.1]) D.bl F_law (fun a => t_law a.1) := by
  unfold F_law m_law m_law_b0
  refine tf_mk4 (n := 7) (fs := [fun a : ((List Int) × Unit) => kScr a.1]) (r := 6) (Qn := fun _ (_ : Unit) _ _ => True) (Ql := fun _ (_ : Unit) _ _ => True) (Qx := fun _ _ _ => True) ?hk ?h
  case hk => exact fun _ => rfl
  case h => exact ⟨_, (tb_set (k := D.str) 1 (td_call (tad_cons (td_call (tad_cons (td_var (k := kScr) (f := fun s : ((List Int) × Unit) => s.1) 0 rfl) (tad_cons (td_k (k := D.int) (0 : Int)) tad_nil)) tf__law_cell_at) tad_nil) tf__law_letters)
    (tb_set (k := (kTp D.str)) 2 (td_call (tad_cons (td_var (k := kScr) (f := fun s : (((List Int) × Unit) × (List Nat)) => s.1.1) 0 rfl) (tad_cons (td_var (k := D.str) (f := fun s : (((List Int) × Unit) × (List Nat)) => s.2) 1 rfl) tad_nil)) tf__law_rows)
    (tb_set (k := (kObj 0 kf_Board)) 3 (td_make (ko := kf_Board) (tad_cons (td_var (k := (kTp D.str)) (f := fun s : ((((List Int) × Unit) × (List Nat)) × (List (List Nat))) => s.2) 2 rfl) (tad_cons (td_call (tad_cons (td_var (k := (kTp D.str)) (f := fun s : ((((List Int) × Unit) × (List Nat)) × (List (List Nat))) => s.2) 2 rfl) (tad_cons (td_call (tad_cons (td_var (k := kScr) (f := fun s : ((((List Int) × Unit) × (List Nat)) × (List (List Nat))) => s.1.1.1) 0 rfl) (tad_cons (td_k (k := D.int) (2 : Int)) tad_nil)) tf__law_cell_at) tad_nil)) tf__law_marks) (tad_cons (td_tup (k := (kT2 D.int D.int)) (fun a : (Int × (Int × Unit)) => (a.1, a.2.1)) (tad_cons (td_k (k := D.int) (0 : Int)) (tad_cons (td_k (k := D.int) (0 : Int)) tad_nil))) tad_nil))) tfi_Board)
    (tb_for (L' := (Unit)) (δ := [.val (fun t : ((((((List Int) × Unit) × (List Nat)) × (List (List Nat))) × Ty_Board) × (Unit)) => kScr t.1.1.1.1.1), .val (fun t : ((((((List Int) × Unit) × (List Nat)) × (List (List Nat))) × Ty_Board) × (Unit)) => D.str t.1.1.1.2), .val (fun t : ((((((List Int) × Unit) × (List Nat)) × (List (List Nat))) × Ty_Board) × (Unit)) => (kTp D.str) t.1.1.2), .val (fun t : ((((((List Int) × Unit) × (List Nat)) × (List (List Nat))) × Ty_Board) × (Unit)) => (kObj 0 kf_Board) t.1.2), .un, .un, .un]) (kx := D.int) (ws := [(4, fun v : Int => D.int v)]) (fun s : (((((List Int) × Unit) × (List Nat)) × (List (List Nat))) × Ty_Board) => ()) (ti_lst (td_slC (td_var (k := kScr) (f := fun s : (((((List Int) × Unit) × (List Nat)) × (List (List Nat))) × Ty_Board) => s.1.1.1.1) 0 rfl) (to_some (td_k (k := D.int) (3 : Int))) (to_some (td_k (k := D.int) (63 : Int))))) (fun _ _ => rfl) (by exact ⟨(fun _ => rfl), ⟨(fun _ => rfl), ⟨(fun _ => rfl), ⟨(fun _ => rfl), ⟨trivial, ⟨trivial, ⟨trivial, trivial⟩⟩⟩⟩⟩⟩⟩)
    (tb_set (k := (kTp (kT3 D.int D.int D.str))) 5 (td_call (tad_cons (td_var (k := (kTp D.str)) (f := fun s : (((((((List Int) × Unit) × (List Nat)) × (List (List Nat))) × Ty_Board) × (Unit)) × Int) => s.1.1.1.2) 2 rfl) (tad_cons (td_call (tad_cons (td_var (k := D.int) (f := fun s : (((((((List Int) × Unit) × (List Nat)) × (List (List Nat))) × Ty_Board) × (Unit)) × Int) => s.2) 4 rfl) (tad_cons (td_k (k := D.int) (1 : Int)) tad_nil)) tf__law_draw) (tad_cons (td_var (k := D.str) (f := fun s : (((((((List Int) × Unit) × (List Nat)) × (List (List Nat))) × Ty_Board) × (Unit)) × Int) => s.1.1.1.1.2) 1 rfl) (tad_cons (td_bin (te_td (td_k (k := D.int) (1 : Int))) (te_td (td_modK (c := 7) (td_var (k := D.int) (f := fun s : (((((((List Int) × Unit) × (List Nat)) × (List (List Nat))) × Ty_Board) × (Unit)) × Int) => s.2) 4 rfl))) o_add) tad_nil)))) tf__law_straight)
    (tb_set (k := (kTp (kT4 D.int D.int D.int D.str))) 6 (td_call (tad_cons (td_var (k := (kTp D.str)) (f := fun s : ((((((((List Int) × Unit) × (List Nat)) × (List (List Nat))) × Ty_Board) × (Unit)) × Int) × (List (Int × Int × (List Nat)))) => s.1.1.1.1.2) 2 rfl) (tad_cons (td_var (k := (kTp (kT3 D.int D.int D.str))) (f := fun s : ((((((((List Int) × Unit) × (List Nat)) × (List (List Nat))) × Ty_Board) × (Unit)) × Int) × (List (Int × Int × (List Nat)))) => s.2) 5 rfl) tad_nil)) tf__law_words)
    (tb_ifR0 (tt_not (tt_val (k := D.bl) (td_call (tad_cons (td_call (tad_cons (td_var (k := (kObj 0 kf_Board)) (f := fun s : (((((((((List Int) × Unit) × (List Nat)) × (List (List Nat))) × Ty_Board) × (Unit)) × Int) × (List (Int × Int × (List Nat)))) × (List (Int × Int × Int × (List Nat)))) => s.1.1.1.1.2) 3 rfl) (tad_cons (td_var (k := (kTp (kT3 D.int D.int D.str))) (f := fun s : (((((((((List Int) × Unit) × (List Nat)) × (List (List Nat))) × Ty_Board) × (Unit)) × Int) × (List (Int × Int × (List Nat)))) × (List (Int × Int × Int × (List Nat)))) => s.1.2) 5 rfl) tad_nil)) tf_formed) (tad_cons (td_var (k := (kTp (kT4 D.int D.int D.int D.str))) (f := fun s : (((((((((List Int) × Unit) × (List Nat)) × (List (List Nat))) × Ty_Board) × (Unit)) × Int) × (List (Int × Int × (List Nat)))) × (List (Int × Int × Int × (List Nat)))) => s.2) 6 rfl) tad_nil)) tf__law_alike))) nn_ret
    (tb_retD (td_k (k := D.bl) false) qr_f (fun _ _ _ _ _ => trivial))
    (tb_if (tt_or (tt_not (tt_val (k := D.bl) (td_call (tad_cons (td_call (tad_cons (td_var (k := (kObj 0 kf_Board)) (f := fun s : (((((((((List Int) × Unit) × (List Nat)) × (List (List Nat))) × Ty_Board) × (Unit)) × Int) × (List (Int × Int × (List Nat)))) × (List (Int × Int × Int × (List Nat)))) => s.1.1.1.1.2) 3 rfl) (tad_cons (td_var (k := (kTp (kT3 D.int D.int D.str))) (f := fun s : (((((((((List Int) × Unit) × (List Nat)) × (List (List Nat))) × Ty_Board) × (Unit)) × Int) × (List (Int × Int × (List Nat)))) × (List (Int × Int × Int × (List Nat)))) => s.1.2) 5 rfl) tad_nil)) tf_formed) (tad_cons (td_var (k := (kTp (kT4 D.int D.int D.int D.str))) (f := fun s : (((((((((List Int) × Unit) × (List Nat)) × (List (List Nat))) × Ty_Board) × (Unit)) × Int) × (List (Int × Int × (List Nat)))) × (List (Int × Int × Int × (List Nat)))) => s.2) 6 rfl) tad_nil)) tf__law_alike))) (tt_val (k := D.bl) (td_bin (te_td (td_fld (ko := kf_Board) (kf := (kTp D.str)) (fun o : Ty_Board => o.1) (td_var (k := (kObj 0 kf_Board)) (f := fun s : (((((((((List Int) × Unit) × (List Nat)) × (List (List Nat))) × Ty_Board) × (Unit)) × Int) × (List (Int × Int × (List Nat)))) × (List (Int × Int × Int × (List Nat)))) => s.1.1.1.1.2) 3 rfl))) (te_td (td_var (k := (kTp D.str)) (f := fun s : (((((((((List Int) × Unit) × (List Nat)) × (List (List Nat))) × Ty_Board) × (Unit)) × Int) × (List (Int × Int × (List Nat)))) × (List (Int × Int × Int × (List Nat)))) => s.1.1.1.1.1.2) 2 rfl)) (o_ne (k := (kTp D.str))))))
    (tb_retD (td_k (k := D.bl) false) qr_f (fun _ _ _ _ _ => trivial))
    (tb_end (fun s : (((((((((List Int) × Unit) × (List Nat)) × (List (List Nat))) × Ty_Board) × (Unit)) × Int) × (List (Int × Int × (List Nat)))) × (List (Int × Int × Int × (List Nat)))) => ()) (fun s e μ E => Enc.wk (p := fun s : (((((((((List Int) × Unit) × (List Nat)) × (List (List Nat))) × Ty_Board) × (Unit)) × Int) × (List (Int × Int × (List Nat)))) × (List (Int × Int × Int × (List Nat)))) => (s.1.1.1.1, ())) (by exact ⟨(fun _ => rfl), ⟨(fun _ => rfl), ⟨(fun _ => rfl), ⟨(fun _ => rfl), ⟨trivial, ⟨trivial, ⟨trivial, trivial⟩⟩⟩⟩⟩⟩⟩) E)) (fun _ _ _ _ _ => trivial)) (fun _ _ _ _ _ => trivial)) (fun _ _ _ _ _ => trivial)) (fun _ _ _ _ _ => trivial))
    (tb_retD (td_k (k := D.bl) true) qr_f (fun _ _ _ _ _ => trivial)) (fun _ _ _ _ _ => trivial)) (fun _ _ _ _ _ => trivial)) (fun _ _ _ _ _ => trivial)) (fun _ _ _ _ _ => trivial)), fun a => by simp only [t_law, R.bind_ok]⟩
end T20

/-! Lr, part 40: what holds after a typed function: R.Ok and its rules; loops by invariants. -/
namespace Lr
open PySem L2
/-- ends well, with P -/
@[irreducible] def R.Ok {α : Type} (r : R α) (P : α → Prop) : Prop := match r with
  | .ok a => P a
  | _ => False
def fn {N L ρ : Type} (P : ρ → Prop) : Fl N L ρ → Prop
  | .rt r => P r
  | _ => False
def fnU {N L : Type} (P : Unit → Prop) : Fl N L Unit → Prop
  | .rt r => P r
  | .nx _ => P ()
  | _ => False
def fnI {N L ρ : Type} (P : N → Prop) : Fl N L ρ → Prop
  | .nx r => P r
  | _ => False
def sq {Y N L ρ : Type} (f : Y → R (Fl N L ρ)) (P : Fl N L ρ → Prop) : Fl Y L ρ → Prop
  | .nx y => (f y).Ok P
  | .bk l => P (.bk l)
  | .ct l => P (.ct l)
  | .rt r => P (.rt r)
/-- after a loop's body: I holds again, or the loop is left -/
def lp {L M ρ : Type} (I : L → Prop) (P : Fl L M ρ → Prop) : Fl L L ρ → Prop
  | .nx l => I l
  | .ct l => I l
  | .bk l => P (.nx l)
  | .rt r => P (.rt r)
section
variable {α β Y N L M ρ X : Type}
theorem ok_ok {a : α} {P : α → Prop} : R.Ok (.ok a) P = P a := by unfold R.Ok; rfl
theorem ok_no {P : α → Prop} : R.Ok .no P = False := by unfold R.Ok; rfl
theorem ok_ex {P : α → Prop} {c : Nat} {ds : List D} : R.Ok (.ex c ds) P = False := by unfold R.Ok; rfl
theorem ok_bind {r : R α} {f : α → R β} {P : β → Prop} : R.Ok (r.bind f) P = r.Ok fun a => (f a).Ok P := by unfold R.Ok; cases r <;> rfl
theorem ok_ne {r : R α} {P : α → Prop} : R.Ok r.ne P = r.Ok P := by unfold R.Ok; cases r <;> rfl
theorem ok_gd {p : Prop} [Decidable p] {r : R α} {P : α → Prop} : R.Ok (R.gd p r) P = (p ∧ r.Ok P) := by
  unfold R.gd
  split
  · rename_i h; simp [h]
  · rename_i h; simp only [h, false_and, ok_no]
theorem ok_if {p : Prop} [Decidable p] {a b : R α} {P : α → Prop} : R.Ok (if p then a else b) P = if p then a.Ok P else b.Ok P := by split <;> rfl
theorem ok_seq {r : R (Fl Y L ρ)} {f : Y → R (Fl N L ρ)} {P : Fl N L ρ → Prop} : R.Ok (R.seq r f) P = r.Ok (sq f P) := by
  cases r with
  | ok o => cases o <;> (rw [ok_ok]; first | rfl | (unfold R.Ok; rfl))
  | ex => exact ok_ex.trans ok_ex.symm
  | no => exact ok_no.trans ok_no.symm
theorem ok_fin {r : R (Fl N L ρ)} {P : ρ → Prop} : R.Ok (R.fin r) P = r.Ok (fn P) := by
  cases r with
  | ok o => cases o <;> (rw [ok_ok]; first | rfl | (unfold R.Ok; rfl))
  | ex => exact ok_ex.trans ok_ex.symm
  | no => exact ok_no.trans ok_no.symm
theorem ok_finU {r : R (Fl N L Unit)} {P : Unit → Prop} : R.Ok (R.finU r) P = r.Ok (fnU P) := by
  cases r with
  | ok o => cases o <;> (rw [ok_ok]; first | rfl | (unfold R.Ok; rfl))
  | ex => exact ok_ex.trans ok_ex.symm
  | no => exact ok_no.trans ok_no.symm
theorem ok_finI {r : R (Fl N L ρ)} {P : N → Prop} : R.Ok (R.finI r) P = r.Ok (fnI P) := by
  cases r with
  | ok o => cases o <;> (rw [ok_ok]; first | rfl | (unfold R.Ok; rfl))
  | ex => exact ok_ex.trans ok_ex.symm
  | no => exact ok_no.trans ok_no.symm
theorem fn_rt {P : ρ → Prop} {r : ρ} : fn (N := N) (L := L) P (.rt r) = P r := id rfl
theorem fn_nx {P : ρ → Prop} {r : N} : fn (N := N) (L := L) P (.nx r) = False := id rfl
theorem fnU_rt {P : Unit → Prop} {r : Unit} : fnU (N := N) (L := L) P (.rt r) = P r := id rfl
theorem fnU_nx {P : Unit → Prop} {r : N} : fnU (L := L) P (.nx r) = P () := id rfl
theorem fnI_nx {P : N → Prop} {r : N} : fnI (L := L) (ρ := ρ) P (.nx r) = P r := id rfl
theorem sq_nx {f : Y → R (Fl N L ρ)} {P : Fl N L ρ → Prop} {y : Y} : sq f P (.nx y) = (f y).Ok P := id rfl
theorem sq_rt {f : Y → R (Fl N L ρ)} {P : Fl N L ρ → Prop} {y : ρ} : sq f P (.rt y) = P (.rt y) := id rfl
theorem sq_bk {f : Y → R (Fl N L ρ)} {P : Fl N L ρ → Prop} {y : L} : sq f P (.bk y) = P (.bk y) := id rfl
theorem sq_ct {f : Y → R (Fl N L ρ)} {P : Fl N L ρ → Prop} {y : L} : sq f P (.ct y) = P (.ct y) := id rfl
theorem lp_nx {I : L → Prop} {P : Fl L M ρ → Prop} {y : L} : lp I P (.nx y) = I y := id rfl
theorem lp_ct {I : L → Prop} {P : Fl L M ρ → Prop} {y : L} : lp I P (.ct y) = I y := id rfl
theorem lp_bk {I : L → Prop} {P : Fl L M ρ → Prop} {y : L} : lp I P (.bk y) = P (.nx y) := id rfl
theorem lp_rt {I : L → Prop} {P : Fl L M ρ → Prop} {y : ρ} : lp I P (.rt y) = P (.rt y) := id rfl
theorem R.Ok.get {r : R α} {P : α → Prop} (h : r.Ok P) : ∃ a, r = .ok a ∧ P a := by
  unfold R.Ok at h
  cases r with
  | ok x => exact ⟨x, rfl, h⟩
  | ex => exact h.elim
  | no => exact h.elim
theorem ok_of {r : R α} {a : α} {P : α → Prop} (h : r = .ok a) (p : P a) : r.Ok P := by rw [h, ok_ok]; exact p
theorem R.Ok.imp {r : R α} {P Q : α → Prop} (h : r.Ok P) (a : ∀ x, P x → Q x) : r.Ok Q := by
  obtain ⟨x, e, p⟩ := h.get
  exact ok_of e (a x p)
theorem ok_imp {r : R α} {P Q : α → Prop} (h : r.Ok P) (a : ∀ x, P x → Q x) : r.Ok Q := h.imp a
theorem R.Ok.eq {r : R α} {a : α} (h : r.Ok fun x => x = a) : r = .ok a := by
  obtain ⟨x, e, p⟩ := h.get
  rw [e, p]
theorem R.Ok.and {r : R α} {P Q : α → Prop} (h : r.Ok P) (h2 : r.Ok Q) : r.Ok fun a => P a ∧ Q a := by
  obtain ⟨x, e, p⟩ := h.get
  obtain ⟨y, e2, p2⟩ := h2.get
  rw [e] at e2
  cases e2
  exact ok_of e ⟨p, p2⟩
/-! places -/
theorem at_eq {xs : List α} {i : Int} {n : Nat} {a : α} (hi : i = (n : Int)) (h : xs[n]? = some a) : atR xs i = .ok a := by
  subst hi
  obtain ⟨hn, e⟩ := List.getElem?_eq_some_iff.mp h
  unfold atR
  rw [atI_pos (by omega) (by omega), show ((n : Int)).toNat = n by omega, h]
theorem at_ok {xs : List α} {i : Int} {P : α → Prop} (h0 : 0 ≤ i) (h1 : i < (xs.length : Nat)) (h : ∀ a, xs[i.toNat]? = some a → P a) : (atR xs i).Ok P := by
  have hn : i.toNat < xs.length := by omega
  exact ok_of (at_eq (n := i.toNat) (by omega) (List.getElem?_eq_getElem hn)) (h _ (List.getElem?_eq_getElem hn))
theorem at_last {xs : List α} {P : α → Prop} (h0 : xs ≠ []) (h : P (xs.getLast h0)) : (atR xs (-1)).Ok P := by
  have hp : 0 < xs.length := List.length_pos_iff.mpr h0
  refine ok_of (a := xs.getLast h0) ?_ h
  unfold atR
  rw [atI_neg (by omega) (by omega), show (-1 + (xs.length : Int)).toNat = xs.length - 1 by omega, List.getElem?_eq_getElem (by omega), List.getLast_eq_getElem]
/-! loops -/
theorem for_go {b : L → X → R (Fl L L ρ)} {P : Fl L M ρ → Prop} {xs : List X} (I : Nat → L → Prop) (hb : ∀ k x l, xs[k]? = some x → I k l → (b l x).Ok (lp (I (k + 1)) P)) (he : ∀ l, I xs.length l → P (.nx l)) :
    ∀ (ys : List X) (k : Nat) (l : L), xs.drop k = ys → k ≤ xs.length → I k l → (forL b ys l : R (Fl L M ρ)).Ok P
  | [], k, l, h, hk, i => by
    have : xs.length ≤ k := List.drop_eq_nil_iff.mp h
    exact ok_of rfl (he l ((show k = xs.length by omega) ▸ i))
  | x :: r, k, l, h, hk, i => by
    have hx : xs[k]? = some x := by
      have : (xs.drop k)[0]? = some x := by rw [h]; rfl
      rwa [List.getElem?_drop] at this
    have hr : xs.drop (k + 1) = r := by rw [← List.drop_drop, h]; rfl
    have hk1 : k + 1 ≤ xs.length := by
      have := (List.getElem?_eq_some_iff.mp hx).1; omega
    have q := hb k x l hx i
    unfold forL
    rw [ok_bind]
    refine q.imp fun o ho => ?_
    cases o with
    | nx l' => exact for_go I hb he r (k + 1) l' hr hk1 ho
    | ct l' => exact for_go I hb he r (k + 1) l' hr hk1 ho
    | bk l' => exact ok_of rfl ho
    | rt r => exact ok_of rfl ho
/-- a for loop: I k before turn k -/
theorem ok_for {b : L → X → R (Fl L L ρ)} {P : Fl L M ρ → Prop} {xs : List X} {l : L} (I : Nat → L → Prop) (hn : xs.length ≤ lineN) (h0 : I 0 l) (hb : ∀ k x l, xs[k]? = some x → I k l → (b l x).Ok (lp (I (k + 1)) P)) (he : ∀ l, I xs.length l → P (.nx l)) :
    (forR xs l b : R (Fl L M ρ)).Ok P := by
  rw [forR_eq, ok_gd]
  exact ⟨hn, for_go I hb he xs 0 l rfl (Nat.zero_le _) h0⟩
/-- .. where I does not count -/
theorem ok_forA {b : L → X → R (Fl L L ρ)} {P : Fl L M ρ → Prop} {xs : List X} {l : L} (I : L → Prop) (hn : xs.length ≤ lineN) (h0 : I l) (hb : ∀ x ∈ xs, ∀ l, I l → (b l x).Ok (lp I P)) (he : ∀ l, I l → P (.nx l)) :
    (forR xs l b : R (Fl L M ρ)).Ok P := ok_for (fun _ => I) hn h0 (fun k x l hx i => hb x (List.mem_of_getElem? hx) l i) he
theorem wh_go {c : L → R Bool} {b : L → R (Fl L L ρ)} {P : Fl L M ρ → Prop} (I : L → Prop) (m : L → Nat) (hc : ∀ l, I l → (c l).Ok fun t => if t then (b l).Ok (lp (fun l' => I l' ∧ m l' < m l) P) else P (.nx l)) :
    ∀ (n : Nat) (l : L), m l < n → I l → (whL c b n l : R (Fl L M ρ)).Ok P
  | 0, _, h, _ => absurd h (by omega)
  | n + 1, l, h, i => by
    unfold whL
    rw [ok_bind]
    refine (hc l i).imp fun t ht => ?_
    cases t with
    | false => exact ok_of rfl ht
    | true =>
      rw [if_pos rfl] at ht
      rw [if_pos rfl, ok_bind]
      refine ht.imp fun o ho => ?_
      cases o with
      | nx l' => exact wh_go I m hc n l' (by have := ho.2; omega) ho.1
      | ct l' => exact wh_go I m hc n l' (by have := ho.2; omega) ho.1
      | bk l' => exact ok_of rfl ho
      | rt r => exact ok_of rfl ho
/-- a while loop: I holds, m falls -/
theorem ok_wh {c : L → R Bool} {b : L → R (Fl L L ρ)} {P : Fl L M ρ → Prop} {l : L} (I : L → Prop) (m : L → Nat) (h0 : I l) (hm : m l < 16777216) (hc : ∀ l, I l → (c l).Ok fun t => if t then (b l).Ok (lp (fun l' => I l' ∧ m l' < m l) P) else P (.nx l)) :
    (whR l c b : R (Fl L M ρ)).Ok P := wh_go I m hc fuel l (by have := fuel_ge; omega) h0
/-- comprehensions -/
theorem lc_map {t : X → R Bool} {b : X → R β} {g : X → β} : ∀ {xs : List X}, (∀ x ∈ xs, t x = .ok true) → (∀ x ∈ xs, b x = .ok (g x)) → lcL t b xs = .ok (xs.map g)
  | [], _, _ => rfl
  | x :: r, ht, hb => by
    unfold lcL
    rw [ht x List.mem_cons_self, hb x List.mem_cons_self]
    simp only [R.ne, R.bind_ok, if_true]
    rw [lc_map (fun y hy => ht y (List.mem_cons_of_mem _ hy)) fun y hy => hb y (List.mem_cons_of_mem _ hy)]
    rfl
theorem lc_filter {t : X → R Bool} {b : X → R β} {p : X → Bool} {g : X → β} : ∀ {xs : List X}, (∀ x ∈ xs, t x = .ok (p x)) → (∀ x ∈ xs, p x = true → b x = .ok (g x)) → lcL t b xs = .ok ((xs.filter p).map g)
  | [], _, _ => rfl
  | x :: r, ht, hb => by
    have ih := lc_filter (xs := r) (fun y hy => ht y (List.mem_cons_of_mem _ hy)) fun y hy => hb y (List.mem_cons_of_mem _ hy)
    unfold lcL
    rw [ht x List.mem_cons_self]
    cases hp : p x with
    | false =>
      rw [List.filter_cons_of_neg (by rw [hp]; simp), ← ih]; rfl
    | true =>
      rw [hb x List.mem_cons_self hp, ih, List.filter_cons_of_pos hp]; rfl
theorem lcR_map {t : X → R Bool} {b : X → R β} (g : X → β) {xs : List X} (hn : xs.length ≤ lineN) (ht : ∀ x ∈ xs, t x = .ok true) (hb : ∀ x ∈ xs, b x = .ok (g x)) : lcR xs t b = .ok (xs.map g) := by
  rw [lcR_eq, R.gd_t hn]; exact lc_map ht hb
theorem lcR_filter {t : X → R Bool} {b : X → R β} (p : X → Bool) (g : X → β) {xs : List X} (hn : xs.length ≤ lineN) (ht : ∀ x ∈ xs, t x = .ok (p x)) (hb : ∀ x ∈ xs, p x = true → b x = .ok (g x)) : lcR xs t b = .ok ((xs.filter p).map g) := by
  rw [lcR_eq, R.gd_t hn]; exact lc_filter ht hb
theorem lc_ok {t : X → R Bool} {b : X → R β} {Q : X → β → Prop} : ∀ {xs : List X}, (∀ x ∈ xs, t x = .ok true) → (∀ x ∈ xs, (b x).Ok (Q x)) → (lcL t b xs).Ok fun (ys : List β) => ys.length = xs.length ∧ ∀ (k : Nat) (x : X) (y : β), xs[k]? = some x → ys[k]? = some y → Q x y
  | [], _, _ => ok_of rfl ⟨rfl, fun k x y h => by cases h⟩
  | x :: r, ht, hb => by
    unfold lcL
    rw [ht x List.mem_cons_self]
    simp only [ok_bind, R.ne, if_true, ok_ne, ok_ok]
    obtain ⟨y, e, this⟩ := (hb x List.mem_cons_self).get
    rw [e, ok_ok]
    refine (lc_ok (Q := Q) (fun y hy => ht y (List.mem_cons_of_mem _ hy)) fun y hy => hb y (List.mem_cons_of_mem _ hy)).imp fun ys ⟨h1, h2⟩ => ⟨by show ys.length + 1 = r.length + 1; omega, fun k x' y' a c => ?_⟩
    cases k with
    | zero => cases a; cases c; exact this
    | succ k => exact h2 k x' y' a c
theorem lcR_ok {t : X → R Bool} {b : X → R β} (Q : X → β → Prop) {xs : List X} {P : List β → Prop} (hn : xs.length ≤ lineN) (ht : ∀ x ∈ xs, t x = .ok true) (hb : ∀ x ∈ xs, (b x).Ok (Q x)) (h : ∀ ys : List β, ys.length = xs.length → (∀ (k : Nat) (x : X) (y : β), xs[k]? = some x → ys[k]? = some y → Q x y) → P ys) : (lcR xs t b).Ok P := by
  rw [lcR_eq, ok_gd]; exact ⟨hn, (lc_ok ht hb).imp fun ys ⟨a, b⟩ => h ys a b⟩
/-- two while loops in step -/
theorem wh_two {L2 M2 ρ2 : Type} {c : L → R Bool} {b : L → R (Fl L L ρ)} {c2 : L2 → R Bool} {b2 : L2 → R (Fl L2 L2 ρ2)} (I : L → L2 → Prop) (m : L → Nat)
    (h : ∀ l l2, I l l2 → ∃ t, c l = .ok t ∧ c2 l2 = .ok t ∧ (t = true → ∃ l' l2', b l = .ok (.nx l') ∧ b2 l2 = .ok (.nx l2') ∧ I l' l2' ∧ m l' < m l)) :
    ∀ (n : Nat) (l : L) (l2 : L2), m l < n → I l l2 → ∃ l' l2', (whL c b n l : R (Fl L M ρ)) = .ok (.nx l') ∧ (whL c2 b2 n l2 : R (Fl L2 M2 ρ2)) = .ok (.nx l2') ∧ I l' l2'
  | 0, _, _, h, _ => absurd h (by omega)
  | n + 1, l, l2, hn, i => by
    obtain ⟨t, e1, e2, ht⟩ := h l l2 i
    unfold whL
    rw [e1, e2]
    cases t with
    | false => exact ⟨l, l2, rfl, rfl, i⟩
    | true =>
      obtain ⟨l', l2', f1, f2, i', hm⟩ := ht rfl
      simp only [R.bind_ok, if_true, f1, f2]
      exact wh_two I m h n l' l2' (by omega) i'
theorem whR_two {L2 M2 ρ2 : Type} {c : L → R Bool} {b : L → R (Fl L L ρ)} {c2 : L2 → R Bool} {b2 : L2 → R (Fl L2 L2 ρ2)} {l : L} {l2 : L2} (I : L → L2 → Prop) (m : L → Nat) (h0 : I l l2) (hm : m l < 16777216)
    (h : ∀ l l2, I l l2 → ∃ t, c l = .ok t ∧ c2 l2 = .ok t ∧ (t = true → ∃ l' l2', b l = .ok (.nx l') ∧ b2 l2 = .ok (.nx l2') ∧ I l' l2' ∧ m l' < m l)) :
    ∃ l' l2', (whR l c b : R (Fl L M ρ)) = .ok (.nx l') ∧ (whR l2 c2 b2 : R (Fl L2 M2 ρ2)) = .ok (.nx l2') ∧ I l' l2' := wh_two I m h fuel l l2 (by have := fuel_ge; omega) h0
/-- two functions, both end well, with Q -/
def R.Two {α β : Type} (r : R α) (r2 : R β) (Q : α → β → Prop) : Prop := ∃ a b, r = .ok a ∧ r2 = .ok b ∧ Q a b
theorem two_ok {a : α} {b : β} {Q : α → β → Prop} (h : Q a b) : R.Two (.ok a) (.ok b) Q := ⟨a, b, rfl, rfl, h⟩
theorem two_bind {α2 β2 : Type} {r : R α} {r2 : R α2} {f : α → R β} {f2 : α2 → R β2} {Q : β → β2 → Prop} (J : α → α2 → Prop) (h : R.Two r r2 J) (h2 : ∀ a b, J a b → R.Two (f a) (f2 b) Q) : R.Two (r.bind f) (r2.bind f2) Q := by
  obtain ⟨a, b, rfl, rfl, j⟩ := h
  exact h2 a b j
theorem two_bindL {α2 : Type} {r : R α} {f : α → R β} {r2 : R α2} {a : α} {Q : β → α2 → Prop} (h : r = .ok a) (h2 : R.Two (f a) r2 Q) : R.Two (r.bind f) r2 Q := by rw [h]; exact h2
theorem two_bindR {α2 β2 : Type} {r : R α} {r2 : R α2} {f2 : α2 → R β2} {b : α2} {Q : α → β2 → Prop} (h : r2 = .ok b) (h2 : R.Two r (f2 b) Q) : R.Two r (r2.bind f2) Q := by rw [h]; exact h2
theorem two_seq {Y2 N2 L2 ρ2 : Type} {r : R (Fl Y L ρ)} {f : Y → R (Fl N L ρ)} {r2 : R (Fl Y2 L2 ρ2)} {f2 : Y2 → R (Fl N2 L2 ρ2)} {Q : Fl N L ρ → Fl N2 L2 ρ2 → Prop} (J : Y → Y2 → Prop) (h : R.Two r r2 fun o o2 => ∃ n n2, o = .nx n ∧ o2 = .nx n2 ∧ J n n2) (h2 : ∀ n n2, J n n2 → R.Two (f n) (f2 n2) Q) : R.Two (R.seq r f) (R.seq r2 f2) Q := by
  obtain ⟨_, _, rfl, rfl, n, n2, rfl, rfl, j⟩ := h
  exact h2 n n2 j
theorem two_fin {N2 L2 ρ2 : Type} {r : R (Fl N L ρ)} {r2 : R (Fl N2 L2 ρ2)} {Q : ρ → ρ2 → Prop} (h : R.Two r r2 fun o o2 => ∃ n n2, o = .rt n ∧ o2 = .rt n2 ∧ Q n n2) : R.Two (R.fin r) (R.fin r2) Q := by
  obtain ⟨_, _, rfl, rfl, n, n2, rfl, rfl, j⟩ := h
  exact ⟨n, n2, rfl, rfl, j⟩
theorem two_wh {L2 M2 ρ2 : Type} {c : L → R Bool} {b : L → R (Fl L L ρ)} {c2 : L2 → R Bool} {b2 : L2 → R (Fl L2 L2 ρ2)} {l : L} {l2 : L2} (I : L → L2 → Prop) (m : L → Nat) (h0 : I l l2) (hm : m l < 16777216)
    (h : ∀ l l2, I l l2 → ∃ t, c l = .ok t ∧ c2 l2 = .ok t ∧ (t = true → ∃ l' l2', b l = .ok (.nx l') ∧ b2 l2 = .ok (.nx l2') ∧ I l' l2' ∧ m l' < m l)) :
    R.Two (whR l c b : R (Fl L M ρ)) (whR l2 c2 b2 : R (Fl L2 M2 ρ2)) fun o o2 => ∃ n n2, o = .nx n ∧ o2 = .nx n2 ∧ I n n2 := by
  obtain ⟨a, b, e1, e2, i⟩ := whR_two I m h0 hm h
  exact ⟨_, _, e1, e2, a, b, rfl, rfl, i⟩
/-- ranges -/
theorem rgZ_get {i : Int} {n k : Nat} (h : k < n) : (rgZ i n)[k]? = some (i + k) := by unfold rgZ; rw [List.getElem?_map, List.getElem?_range h]; rfl
theorem rgZ_inv {i x : Int} {n k : Nat} (h : (rgZ i n)[k]? = some x) : k < n ∧ x = i + k := by
  have hk : k < n := by have := (List.getElem?_eq_some_iff.mp h).1; rwa [rgZ_len] at this
  rw [rgZ_get hk] at h
  exact ⟨hk, (Option.some.inj h).symm⟩
theorem rgZ_mem {i x : Int} {n : Nat} (h : x ∈ rgZ i n) : i ≤ x ∧ x < i + n := by
  obtain ⟨k, hk⟩ := List.getElem?_of_mem h
  obtain ⟨a, b⟩ := rgZ_inv hk
  omega
theorem okMul_l {i j : Int} (h : -1000000 < i ∧ i < 1000000) : okMul i j := .inl ⟨by omega, by omega⟩
theorem okMul_r {i j : Int} (h : -1000000 < j ∧ j < 1000000) : okMul i j := .inr (.inl ⟨by omega, by omega⟩)
theorem okDiv_s {j : Int} (h0 : 0 < j) (h : j < 1000000) : okDiv j := by
  refine ⟨h0, ?_⟩
  have h2 : j.natAbs < 2 ^ 20 := by omega
  by_cases z : j.natAbs = 0
  · rw [z]; decide
  · have := (Nat.log2_lt z).mpr h2; omega
end
section
variable {α : Type}
theorem ok_imul {a b : Int} {P : Int → Prop} : (imulR a b).Ok P = (okMul a b ∧ P (a * b)) := by
  unfold imulR
  rw [ok_gd, ok_ok]
theorem ok_idiv {a b : Int} {P : Int → Prop} : (idivR a b).Ok P = (okDiv b ∧ P (a / b)) := by
  unfold idivR
  rw [ok_gd, ok_ok]
theorem ok_imod {a b : Int} {P : Int → Prop} : (imodR a b).Ok P = (0 < b ∧ P (a % b)) := by
  unfold imodR
  rw [ok_gd, ok_ok]
theorem ok_add {a b : List α} {P : List α → Prop} : (addR a b).Ok P = (a.length + b.length ≤ lineN ∧ P (a ++ b)) := by
  unfold addR
  rw [ok_gd, ok_ok]
theorem ok_app {a : List α} {b : α} {P : List α → Prop} : (appR a b).Ok P = (a.length < lineN ∧ P (a ++ [b])) := by
  unfold appR
  rw [ok_gd, ok_ok]
theorem ok_mul {a : List α} {b : Int} {P : List α → Prop} : (mulR a b).Ok P = ((-(2 ^ 63) ≤ b ∧ b < 2 ^ 63 ∧ a.length * b.toNat ≤ lineN) ∧ P (repL a b)) := by
  unfold mulR
  rw [ok_gd, ok_ok]
theorem ok_rg1 {a : Int} {P : List Int → Prop} : (rg1 a).Ok P = (okR a ∧ P (rgZ 0 a.toNat)) := by
  unfold rg1
  rw [ok_gd, ok_ok]
theorem ok_rg2 {a b : Int} {P : List Int → Prop} : (rg2 a b).Ok P = ((okR a ∧ okR b) ∧ P (rgZ a (b - a).toNat)) := by
  unfold rg2
  rw [ok_gd, ok_ok]
theorem ok_join {a : List Nat} {b : List (List Nat)} {P : List Nat → Prop} : (joinR a b).Ok P = ((b.map List.length).sum + b.length * a.length ≤ lineN ∧ P (joinL a b)) := by
  unfold joinR
  rw [ok_gd, ok_ok]
theorem ok_low {a : List Nat} {P : List Nat → Prop} : (lowR a).Ok P = (lowOk a ∧ P (a.map loC)) := by
  unfold lowR
  rw [ok_gd, ok_ok]
theorem ok_upp {a : List Nat} {P : List Nat → Prop} : (uppR a).Ok P = (lowOk a ∧ P (a.map upC)) := by
  unfold uppR
  rw [ok_gd, ok_ok]
theorem okR_s {i : Int} (h : -1000000000 ≤ i ∧ i ≤ 1000000000) : okR i := ⟨by omega, by omega⟩
theorem set_ok {xs : List α} {i : Int} {v : α} {P : List α → Prop} (h0 : 0 ≤ i) (h1 : i < (xs.length : Nat)) (h : P (xs.set i.toNat v)) : (setR xs i v).Ok P := by
  unfold setR
  have : ixN xs.length i = some i.toNat := by
    unfold ixN
    rw [if_pos h0, if_pos h1]
  rw [this]; exact ok_of rfl h
theorem joinL_nil_len : ∀ b : List (List Nat), (joinL [] b).length = (b.map List.length).sum
  | [] => rfl
  | [x] => by simp [joinL]
  | x :: y :: r => by
    have := joinL_nil_len (y :: r)
    show (x ++ [] ++ joinL [] (y :: r)).length = _
    rw [List.length_append, this]; simp
/-- the rules at once -/
local macro_rules | `(tactic| walk_at "w") => `(tactic| simp only [ok_bind, ok_ok, ok_gd, ok_ne, ok_fin, ok_finU, ok_finI, ok_seq, fn_rt, fnU_rt, fnU_nx, fnI_nx, sq_nx, sq_rt, sq_bk, sq_ct, lp_nx, lp_rt, lp_bk, lp_ct, ok_imul, ok_idiv, ok_imod, ok_add, ok_app, ok_mul, ok_rg1, ok_rg2, ok_join, ok_low, ok_upp, R.bind_ok, Bool.true_and, Bool.not_true, Bool.not_false, if_true, if_false, Bool.false_eq_true, Bool.or_true, Bool.true_or, Bool.false_or])
end
end Lr

namespace T20
open PySem L2 Lr
local macro_rules | `(tactic| walk_at "w") => `(tactic| simp only [ok_bind, ok_ok, ok_gd, ok_ne, ok_fin, ok_finU, ok_finI, ok_seq, fn_rt, fnU_rt, fnU_nx, fnI_nx, sq_nx, sq_rt, sq_bk, sq_ct, lp_nx, lp_rt, lp_bk, lp_ct, ok_imul, ok_idiv, ok_imod, ok_add, ok_app, ok_mul, ok_rg1, ok_rg2, ok_join, ok_low, ok_upp, R.bind_ok, Bool.true_and, Bool.not_true, Bool.not_false, if_true, if_false, Bool.false_eq_true, Bool.or_true, Bool.true_or, Bool.false_or])
theorem cell_at_ok (ns : List Int) (k : Int) (hk : 0 ≤ k) {P : Int → Prop} (h : ∀ c, P c) : (t__law_cell_at ns k).Ok P := by
  unfold t__law_cell_at
  walk_at "w"
  split
  · rename_i q
    walk_at "w"
    exact at_ok hk (by simpa using q) fun a _ => h a
  · walk_at "w"; exact h _
theorem draw_ok (cell j : Int) (h0 : 0 ≤ j) (h1 : j < 1000) {P : Int → Prop} (h : ∀ c, P c) : (t__law_draw cell j).Ok P := by
  unfold t__law_draw
  walk_at "w"
  exact ⟨okMul_r ⟨by omega, by omega⟩, okDiv_s (by omega) (by omega), h _⟩
/-- an alphabet -/
def Alph (L : List Nat) : Prop := 0 < L.length ∧ L.length ≤ 26 ∧ ∀ c ∈ L, 97 ≤ c ∧ c ≤ 122
def Sg (c : Nat) : Prop := (97 ≤ c ∧ c ≤ 122) ∨ (65 ≤ c ∧ c ≤ 90)
theorem alph_low : Alph lowL := ⟨by decide, by decide, fun c hc => lowL_mem.mp hc⟩
theorem letters_ok (cell : Int) {P : List Nat → Prop} (h : ∀ L, Alph L → P L) : (t__law_letters cell).Ok P := by
  unfold t__law_letters
  walk_at "w"
  split
  · walk_at "w"; exact h _ alph_low
  · walk_at "w"
    refine at_ok (by omega) (by simp; omega) fun s hs => ⟨okR_s (by omega), ?_⟩
    have hs' : 0 ≤ s ∧ s ≤ 11 := by
      have := List.mem_of_getElem? hs
      simp at this
      omega
    refine lcR_ok (fun _ y => ∃ c ∈ lowL, y = [c]) (len_le (by rw [rgZ_len]; omega)) (fun _ _ => rfl) (fun x hx => ?_) fun ys hl hy => ?_
    · walk_at "w"
      have := rgZ_mem hx
      refine ⟨okMul_r ⟨by omega, by omega⟩, at_ok (by omega) (by rw [lowL_len]; omega) fun a ha => ⟨a, List.mem_of_getElem? ha, rfl⟩⟩
    · have hq : ∀ y ∈ ys, ∃ c ∈ lowL, y = [c] := fun y hm => by
        obtain ⟨k, hk⟩ := List.getElem?_of_mem hm
        have hkl := (List.getElem?_eq_some_iff.mp hk).1
        rw [hl] at hkl
        exact hy k _ y (List.getElem?_eq_getElem hkl) hk
      rw [rgZ_len] at hl
      have e : ∀ zs : List (List Nat), (∀ y ∈ zs, ∃ c ∈ lowL, y = [c]) → (zs.map List.length).sum = zs.length ∧ zs.flatten.length = zs.length ∧ ∀ c ∈ zs.flatten, c ∈ lowL := by
        intro zs
        induction zs with
        | nil => intro _; exact ⟨rfl, rfl, fun c hc => by simp at hc⟩
        | cons z zs ih =>
          intro hz
          obtain ⟨c, hc, rfl⟩ := hz z List.mem_cons_self
          obtain ⟨a, b, d⟩ := ih fun y hy => hz y (List.mem_cons_of_mem _ hy)
          refine ⟨by simp [a] <;> omega, by simp [b] <;> omega, fun x hx => ?_⟩
          rw [List.flatten_cons] at hx
          rcases List.mem_append.mp hx with m | m
          · rw [List.mem_singleton.mp m]; exact hc
          · exact d x m
      obtain ⟨e1, e2, e3⟩ := e ys hq
      refine ⟨len_le (by rw [e1]; simp; omega), ?_⟩
      rw [joinL_nil]
      exact h _ ⟨by omega, by omega, fun c hc => lowL_mem.mp (e3 c hc)⟩
theorem upC_low {c : Nat} (h : 97 ≤ c ∧ c ≤ 122) : Sg (upC c) := by
  have : ∀ c, c < 123 → 97 ≤ c → Sg (upC c) := by unfold Sg; decide
  exact this c (by omega) h.1
theorem sign_ok (cell : Int) {L : List Nat} (hL : Alph L) {P : List Nat → Prop} (h : ∀ c, Sg c → P [c]) : (t__law_sign cell L).Ok P := by
  unfold t__law_sign
  walk_at "w"
  have h1 := hL.1
  refine ⟨by omega, at_ok (Int.emod_nonneg _ (by omega)) (Int.emod_lt_of_pos _ (by omega)) fun a ha => ?_⟩
  have hm := hL.2.2 a (List.mem_of_getElem? ha)
  split
  · walk_at "w"
    refine ⟨⟨by simp, by simp; omega⟩, h _ (upC_low hm)⟩
  · walk_at "w"; exact h _ (.inl hm)
theorem loC_sg {c : Nat} (h : Sg c) : Sg (loC c) := by
  have : ∀ c, c < 123 → Sg c → Sg (loC c) := by unfold Sg; decide
  unfold Sg at h
  exact this c (by omega) h
end T20

namespace T20
open PySem L2 Lr
local macro_rules | `(tactic| walk_at "w") => `(tactic| simp only [ok_bind, ok_ok, ok_gd, ok_ne, ok_fin, ok_finU, ok_finI, ok_seq, fn_rt, fnU_rt, fnU_nx, fnI_nx, sq_nx, sq_rt, sq_bk, sq_ct, lp_nx, lp_rt, lp_bk, lp_ct, ok_imul, ok_idiv, ok_imod, ok_add, ok_app, ok_mul, ok_rg1, ok_rg2, ok_join, ok_low, ok_upp, R.bind_ok, Bool.true_and, Bool.not_true, Bool.not_false, if_true, if_false, Bool.false_eq_true, Bool.or_true, Bool.true_or, Bool.false_or])
def Rw (C : Nat) (r : List Nat) : Prop := r.length = C ∧ ∀ c ∈ r, c = 46 ∨ Sg c
def Gd (R C : Nat) (g : List (List Nat)) : Prop := g.length = R ∧ (∀ r ∈ g, Rw C r) ∧ 1 ≤ R ∧ R ≤ 9 ∧ 1 ≤ C ∧ C ≤ 9
def Fr (g : List (List Nat)) : Prop := ∃ (i j : Nat) (r : List Nat), g[i]? = some r ∧ r[j]? = some 46
theorem rows_ok (ns : List Int) {L : List Nat} (hL : Alph L) {P : List (List Nat) → Prop} (h : ∀ g R C, Gd R C g → Fr g → P g) : (t__law_rows ns L).Ok P := by
  unfold t__law_rows
  walk_at "w"
  refine cell_at_ok ns 1 (by omega) fun cell => ?_
  refine ok_imp (P := fun o => ∃ a b : Int, o = .nx (a, b) ∧ 1 ≤ a ∧ a ≤ 9 ∧ 1 ≤ b ∧ b ≤ 9) ?_ ?_
  · split <;> walk_at "w" <;> exact ⟨_, _, rfl, by omega, by omega, by omega, by omega⟩
  rintro _ ⟨a, b, rfl, ha, ha9, hb, hb9⟩
  walk_at "w"
  refine cell_at_ok ns 2 (by omega) fun lies => at_ok (by omega) (by simp; omega) fun full hf => ⟨okR_s (by omega), ?_⟩
  refine ok_for (fun k l => l.2.length = k ∧ ∀ r ∈ l.2, Rw b.toNat r) (len_le (by rw [rgZ_len]; omega)) ⟨rfl, fun r hr => by simp at hr⟩ (fun k x l hx i => ?_) fun l i => ?_
  · obtain ⟨hk, rfl⟩ := rgZ_inv hx
    walk_at "w"
    refine ⟨okR_s (by omega), ?_⟩
    refine ok_for (fun k l => Rw k l.2) (len_le (by rw [rgZ_len]; omega)) ⟨rfl, fun r hr => by simp at hr⟩ (fun k2 x l2 hx i2 => ?_) fun l2 i2 => ?_
    · obtain ⟨hk2, rfl⟩ := rgZ_inv hx
      walk_at "w"
      refine draw_ok _ _ (by omega) (by omega) fun number => ?_
      refine ok_imp (P := fun o => ∃ a b : Int, o = .nx (a, b)) ?_ ?_
      · split <;> walk_at "w" <;> exact ⟨_, _, rfl⟩
      rintro _ ⟨c, d, rfl⟩
      walk_at "w"
      split
      · walk_at "w"
        refine sign_ok _ hL fun s hs => ⟨len_le (by rw [i2.1]; simp; omega), ?_⟩
        exact ⟨by rw [List.length_append, i2.1]; rfl, fun x hx => by
          rcases List.mem_append.mp hx with m | m
          · exact i2.2 x m
          · rw [List.mem_singleton.mp m]; exact .inr hs⟩
      · walk_at "w"
        refine ⟨len_le (by rw [i2.1]; simp; omega), ?_⟩
        exact ⟨by rw [List.length_append, i2.1]; rfl, fun x hx => by
          rcases List.mem_append.mp hx with m | m
          · exact i2.2 x m
          · rw [List.mem_singleton.mp m]; exact .inl rfl⟩
    · walk_at "w"
      rw [rgZ_len] at i2
      refine ⟨len_lt (by rw [i.1]; omega), by rw [List.length_append, i.1]; rfl, fun r hr => ?_⟩
      rcases List.mem_append.mp hr with m | m
      · exact i.2 r m
      · rw [List.mem_singleton.mp m]; exact i2
  · rw [rgZ_len] at i
    have hb0 : 0 < b := by omega
    have hab : 0 < a * b := Int.mul_pos (by omega) hb0
    have h1 : 0 ≤ cell / 7 % (a * b) := Int.emod_nonneg _ (by omega)
    have h2 : cell / 7 % (a * b) < a * b := Int.emod_lt_of_pos _ hab
    generalize hq : cell / 7 % (a * b) = q at *
    walk_at "w"
    rw [hq]
    have h3 : 0 ≤ q / b := Int.ediv_nonneg h1 (by omega)
    have h4 : q / b < a := Int.ediv_lt_of_lt_mul hb0 h2
    have h5 : 0 ≤ q % b := Int.emod_nonneg _ (by omega)
    have h6 : q % b < b := Int.emod_lt_of_pos _ hb0
    refine ⟨okMul_l ⟨by omega, by omega⟩, hab, okDiv_s (by omega) (by omega), at_ok h3 (by rw [i.1]; omega) fun line hl => ⟨hb0, ?_⟩⟩
    generalize q / b = u at *
    generalize q % b = v at *
    have hr := i.2 line (List.mem_of_getElem? hl)
    have lw := hr.1
    have e1 : cutL line none (some v) = line.take v.toNat := by
      unfold cutL HT.sIx
      simp only [List.drop_zero, Nat.sub_zero]
      rw [if_neg (by omega), Nat.min_eq_left (by omega)]
    have e2 : cutL line (some (v + 1)) none = line.drop (v.toNat + 1) := by
      unfold cutL HT.sIx
      simp only
      rw [if_neg (by omega), Nat.min_eq_left (by omega), show (v + 1).toNat = v.toNat + 1 by omega]
      exact List.take_of_length_le (by rw [List.length_drop]; exact Nat.le_refl _)
    rw [e1, e2]
    refine ⟨len_le (by simp; omega), len_le (by simp; omega), set_ok h3 (by rw [i.1]; omega) ?_⟩
    have rw' : Rw b.toNat (line.take v.toNat ++ [46] ++ line.drop (v.toNat + 1)) := by
      refine ⟨by simp; omega, fun c hc => ?_⟩
      simp only [List.mem_append, List.mem_singleton] at hc
      rcases hc with (m | m) | m
      · exact hr.2 c (List.mem_of_mem_take m)
      · exact .inl m
      · exact hr.2 c (List.mem_of_mem_drop m)
    refine h _ a.toNat b.toNat ⟨by rw [List.length_set]; exact i.1, fun r hm => ?_, by omega, by omega, by omega, by omega⟩ ⟨u.toNat, v.toNat, _, List.getElem?_set_self (by rw [i.1]; omega), ?_⟩
    · rcases List.mem_or_eq_of_mem_set hm with m | m
      · exact i.2 r m
      · rw [m]; exact rw'
    · rw [List.append_assoc, List.getElem?_append_right (by simp; omega)]
      have : v.toNat - (line.take v.toNat).length = 0 := by simp; omega
      rw [this]; rfl
def MkS (C : Nat) (r : List Nat) : Prop := r.length = C ∧ ∀ c ∈ r, c ∈ [46, 50, 51, 52, 98, 99, 100]
theorem marks_ok (cell : Int) {g : List (List Nat)} {R C : Nat} (hg : Gd R C g) {P : List (List Nat) → Prop} (h : ∀ m : List (List Nat), m.length = R → (∀ r ∈ m, MkS C r) → P m) : (t__law_marks g cell).Ok P := by
  obtain ⟨g1, g2, g3, g4, g5, g6⟩ := hg
  unfold t__law_marks
  walk_at "w"
  refine ⟨okR_s (by omega), ?_⟩
  refine ok_for (fun k l => l.length = k ∧ ∀ r ∈ l, MkS C r) (len_le (by rw [rgZ_len]; omega)) ⟨rfl, fun r hr => by simp at hr⟩ (fun k x l hx i => ?_) fun l i => ?_
  · obtain ⟨hk, rfl⟩ := rgZ_inv hx
    walk_at "w"
    refine at_ok (by omega) (by omega) fun r0 hr0 => ?_
    have l0 := (g2 r0 (List.mem_of_getElem? hr0)).1
    refine ⟨okR_s (by omega), ?_⟩
    refine ok_for (fun k l => MkS k l) (len_le (by rw [rgZ_len]; omega)) ⟨rfl, fun r hr => by simp at hr⟩ (fun k2 x l2 hx i2 => ?_) fun l2 i2 => ?_
    · obtain ⟨hk2, rfl⟩ := rgZ_inv hx
      walk_at "w"
      refine draw_ok _ _ (by omega) (by omega) fun number => ⟨⟨by omega, by omega, len_le (by simp)⟩, len_le (by decide), ?_⟩
      have l18 : (([50, 51, 52, 98, 99, 100] : List Nat) ++ repL [46] 12).length = 18 := by decide
      refine at_ok (by omega) ?_ fun c hc => ⟨len_le (by rw [i2.1]; simp; omega), ?_⟩
      · rw [l18]; omega
      have hm : c ∈ ([46, 50, 51, 52, 98, 99, 100] : List Nat) := by
        have : ∀ c ∈ ([50, 51, 52, 98, 99, 100] : List Nat) ++ repL [46] 12, c ∈ ([46, 50, 51, 52, 98, 99, 100] : List Nat) := by decide
        exact this c (List.mem_of_getElem? hc)
      exact ⟨by rw [List.length_append, i2.1]; rfl, fun x hx => by
        rcases List.mem_append.mp hx with m | m
        · exact i2.2 x m
        · rw [List.mem_singleton.mp m]; exact hm⟩
    · walk_at "w"
      rw [rgZ_len] at i2
      refine ⟨len_lt (by rw [i.1]; omega), by rw [List.length_append, i.1]; rfl, fun r hr => ?_⟩
      rcases List.mem_append.mp hr with m | m
      · exact i.2 r m
      · rw [List.mem_singleton.mp m]; rw [l0] at i2; exact i2
  · walk_at "w"
    rw [rgZ_len] at i
    exact h l (by omega) i.2
end T20

namespace T20
open PySem L2 Lr
local macro_rules | `(tactic| walk_at "w") => `(tactic| simp only [ok_bind, ok_ok, ok_gd, ok_ne, ok_fin, ok_finU, ok_finI, ok_seq, fn_rt, fnU_rt, fnU_nx, fnI_nx, sq_nx, sq_rt, sq_bk, sq_ct, lp_nx, lp_rt, lp_bk, lp_ct, ok_imul, ok_idiv, ok_imod, ok_add, ok_app, ok_mul, ok_rg1, ok_rg2, ok_join, ok_low, ok_upp, R.bind_ok, Bool.true_and, Bool.not_true, Bool.not_false, if_true, if_false, Bool.false_eq_true, Bool.or_true, Bool.true_or, Bool.false_or])
theorem Gd.row {R C : Nat} {g : List (List Nat)} (hg : Gd R C g) {i : Nat} {r : List Nat} (h : g[i]? = some r) : r.length = C := (hg.2.1 r (List.mem_of_getElem? h)).1
theorem near_ok {g : List (List Nat)} {R C : Nat} (hg : Gd R C g) (r c : Int) {P : Bool → Prop} (h : ∀ b, P b) : (t__law_is_near g r c).Ok P := by
  have g1 := hg.1
  have g3 := hg.2.2
  unfold t__law_is_near
  walk_at "w"
  refine ok_forA (fun _ => True) (len_le (by simp)) trivial (fun x _ l _ => ?_) fun l _ => by walk_at "w"; exact h _
  walk_at "w"
  refine ok_imp (P := fun _ => True) ?_ fun t _ => ?_
  · split
    · rename_i q
      simp only [Bool.and_eq_true, decide_eq_true_eq] at q
      walk_at "w"
      split
      · rename_i q2
        simp only [decide_eq_true_eq] at q2
        walk_at "w"
        refine at_ok (by omega) (by omega) fun r0 h0 => ?_
        split
        · rename_i q3
          simp only [decide_eq_true_eq] at q3
          have l0 := hg.row h0
          walk_at "w"
          exact at_ok q.1 (by omega) fun r1 h1 => at_ok q2 (by rw [hg.row h1]; omega) fun _ _ => trivial
        · walk_at "w"
      · walk_at "w"
    · walk_at "w"
  · split <;> walk_at "w"
    exact h _
/-- a free cell -/
def Fc (g : List (List Nat)) (p : Int × Int) : Prop := 0 ≤ p.1 ∧ 0 ≤ p.2 ∧ ∃ r, g[p.1.toNat]? = some r ∧ r[p.2.toNat]? = some 46
theorem starts_ok {g : List (List Nat)} {R C : Nat} (hg : Gd R C g) (hf : Fr g) (cell : Int) {P : Int × Int → Prop} (h : ∀ p, Fc g p → P p) : (t__law_starts g cell).Ok P := by
  have g1 := hg.1
  have g3 := hg.2.2
  unfold t__law_starts
  walk_at "w"
  refine ⟨okR_s (by omega), ?_⟩
  refine ok_for (fun k l => l.1.length ≤ 9 * k ∧ l.2.length ≤ 9 * k ∧ (∀ p ∈ l.1, Fc g p) ∧ (∀ p ∈ l.2, Fc g p) ∧ ∀ (i j : Nat) r, i < k → g[i]? = some r → r[j]? = some 46 → ((i : Int), (j : Int)) ∈ l.1) (len_le (by rw [rgZ_len]; omega))
    ⟨by simp, by simp, fun p hp => by simp at hp, fun p hp => by simp at hp, fun i j r hi => absurd hi (by omega)⟩ (fun k x l hx i => ?_) fun l i => ?_
  · obtain ⟨hk, rfl⟩ := rgZ_inv hx
    walk_at "w"
    refine at_ok (by omega) (by omega) fun r0 h0 => ?_
    have l0 := hg.row h0
    refine ⟨okR_s (by omega), ?_⟩
    obtain ⟨i1, i2, i3, i4, i5⟩ := i
    refine ok_for (fun k2 l2 => l2.1.length ≤ 9 * k + k2 ∧ l2.2.length ≤ 9 * k + k2 ∧ (∀ p ∈ l2.1, Fc g p) ∧ (∀ p ∈ l2.2, Fc g p) ∧ ∀ (i j : Nat) r, (i < k ∨ (i = k ∧ j < k2)) → g[i]? = some r → r[j]? = some 46 → ((i : Int), (j : Int)) ∈ l2.1) (len_le (by rw [rgZ_len]; omega))
      ⟨i1, i2, i3, i4, fun i j r hi => i5 i j r (by omega)⟩ (fun k2 x l2 hx q => ?_) fun l2 q => ?_
    · obtain ⟨hk2, rfl⟩ := rgZ_inv hx
      obtain ⟨q1, q2, q3, q4, q5⟩ := q
      walk_at "w"
      refine at_ok (by omega) (by omega) fun r hr => ?_
      have lr := hg.row hr
      refine at_ok (by omega) (by omega) fun c hc => ?_
      rw [show (0 + (k : Int)).toNat = k by omega] at hr
      rw [show (0 + (k2 : Int)).toNat = k2 by omega] at hc
      split
      · rename_i e
        simp only [decide_eq_true_eq] at e
        have e := (List.cons.inj e).1
        subst e
        have fc : Fc g (0 + (k : Int), 0 + (k2 : Int)) := ⟨by simp, by simp, r, by rw [show (0 + (k : Int)).toNat = k by omega]; exact hr, by rw [show (0 + (k2 : Int)).toNat = k2 by omega]; exact hc⟩
        have nf : ∀ p ∈ l2.1 ++ [(0 + (k : Int), 0 + (k2 : Int))], Fc g p := fun p hp => by
          rcases List.mem_append.mp hp with m | m
          · exact q3 p m
          · rw [List.mem_singleton.mp m]; exact fc
        have nn : ∀ (i j : Nat) r, (i < k ∨ (i = k ∧ j < k2 + 1)) → g[i]? = some r → r[j]? = some 46 → ((i : Int), (j : Int)) ∈ l2.1 ++ [(0 + (k : Int), 0 + (k2 : Int))] := fun i j r' hij a b => by
          by_cases z : i < k ∨ (i = k ∧ j < k2)
          · exact List.mem_append_left _ (q5 i j r' z a b)
          · have : i = k ∧ j = k2 := by omega
            rw [this.1, this.2]
            exact List.mem_append_right _ (by simp)
        walk_at "w"
        refine ⟨len_lt (by omega), near_ok hg _ _ fun b => ?_⟩
        split
        · walk_at "w"
          refine ⟨len_lt (by omega), by rw [List.length_append]; simp; omega, by rw [List.length_append]; simp; omega, nf, fun p hp => ?_, nn⟩
          rcases List.mem_append.mp hp with m | m
          · exact q4 p m
          · rw [List.mem_singleton.mp m]; exact fc
        · walk_at "w"
          exact ⟨by rw [List.length_append]; simp; omega, by omega, nf, q4, nn⟩
      · rename_i e
        simp only [decide_eq_true_eq] at e
        walk_at "w"
        refine ⟨by omega, by omega, q3, q4, fun i j r' hij a b => ?_⟩
        by_cases z : i < k ∨ (i = k ∧ j < k2)
        · exact q5 i j r' z a b
        · obtain ⟨rfl, rfl⟩ : i = k ∧ j = k2 := by omega
          rw [hr] at a
          cases a
          rw [hc] at b
          cases b
          exact absurd rfl e
    · walk_at "w"
      rw [rgZ_len] at q
      obtain ⟨q1, q2, q3, q4, q5⟩ := q
      refine ⟨by omega, by omega, q3, q4, fun i j r' hi a b => q5 i j r' ?_ a b⟩
      have := (List.getElem?_eq_some_iff.mp b).1
      rw [hg.row a] at this
      omega
  · rw [rgZ_len] at i
    obtain ⟨i1, i2, i3, i4, i5⟩ := i
    have ne : 0 < l.1.length := by
      obtain ⟨a, b, r, e1, e2⟩ := hf
      exact List.length_pos_of_mem (i5 a b r (by have := (List.getElem?_eq_some_iff.mp e1).1; omega) e1 e2)
    walk_at "w"
    split
    · rename_i z
      simp only [Bool.and_eq_true, Bool.not_eq_true', decide_eq_false_iff_not, decide_eq_true_eq] at z
      have np : 0 < l.2.length := List.length_pos_iff.mpr z.1
      walk_at "w"
      refine ⟨by omega, at_ok (Int.emod_nonneg _ (by omega)) (Int.emod_lt_of_pos _ (by omega)) fun a ha => h _ (i4 _ (List.mem_of_getElem? ha))⟩
    · walk_at "w"
      refine ⟨by omega, at_ok (Int.emod_nonneg _ (by omega)) (Int.emod_lt_of_pos _ (by omega)) fun a ha => h _ (i3 _ (List.mem_of_getElem? ha))⟩
/-- a sign lain on the board -/
def Ly (R C : Nat) (q : Tri) : Prop := 0 ≤ q.1 ∧ q.1 < R ∧ 0 ≤ q.2.1 ∧ q.2.1 < C ∧ ∃ c, Sg c ∧ q.2.2 = [c]
theorem straight_ok {g : List (List Nat)} {R C : Nat} (hg : Gd R C g) (hf : Fr g) (cell : Int) {L : List Nat} (hL : Alph L) (many : Int) (hm : 1 ≤ many) {P : List Tri → Prop} (h : ∀ y : List Tri, y ≠ [] → y.length ≤ 100 → (∀ q ∈ y, Ly R C q) → P y) :
    (t__law_straight g cell L many).Ok P := by
  have g1 := hg.1
  have g3 := hg.2.2
  unfold t__law_straight
  walk_at "w"
  have hw : cell % 2 = 0 ∨ cell % 2 = 1 := by omega
  generalize cell % 2 = way at *
  refine starts_ok hg hf _ fun p hp => ?_
  refine ok_wh (fun l => 0 ≤ l.2.2.2.1 ∧ 0 ≤ l.2.2.2.2 ∧ (l.1.length : Int) ≤ l.2.2.2.1 + l.2.2.2.2 ∧ l.2.2.2.1 ≤ 9 ∧ l.2.2.2.2 ≤ 9 ∧ (∀ q ∈ l.1, Ly R C q) ∧ (l.1 = [] → Fc g (l.2.2.2.1, l.2.2.2.2))) (fun l => (100 - l.2.2.2.1 - l.2.2.2.2).toNat) ?_ ?_ fun l i => ?_
  · obtain ⟨a, b, r, e1, e2⟩ := hp
    have z1 := (List.getElem?_eq_some_iff.mp e1).1
    have z2 := (List.getElem?_eq_some_iff.mp e2).1
    rw [hg.row e1] at z2
    exact ⟨a, b, by simp; omega, by dsimp only; omega, by dsimp only; omega, fun q hq => by simp at hq, fun _ => ⟨a, b, r, e1, e2⟩⟩
  · have := hp.1
    have := hp.2.1
    simp only
    omega
  · obtain ⟨found, blanks, rest, row, col⟩ := l
    dsimp only at i ⊢
    obtain ⟨i1, i2, i3, i9, i9', i4, i5⟩ := i
    have ex : ¬ (row < g.length ∧ col < C ∧ (found.length : Int) < many) → P found := fun z => h _ (fun e => z (by
      obtain ⟨a, b, r, e1, e2⟩ := i5 e
      have z1 := (List.getElem?_eq_some_iff.mp e1).1
      have z2 := (List.getElem?_eq_some_iff.mp e2).1
      rw [hg.row e1] at z2
      rw [e]
      simp
      dsimp only at z1 z2
      omega)) (by omega) i4
    split
    case isFalse z =>
      simp only [decide_eq_true_eq] at z
      walk_at "w"
      exact ex fun y => z y.1
    case isTrue z =>
      simp only [decide_eq_true_eq] at z
      walk_at "w"
      refine at_ok (by omega) (by omega) fun r0 h0 => ?_
      have l0 := hg.row h0
      split
      case isFalse z2 =>
        simp only [decide_eq_true_eq] at z2
        walk_at "w"
        exact ex fun y => z2 (by omega)
      case isTrue z2 =>
        simp only [decide_eq_true_eq] at z2
        walk_at "w"
        split
        case isFalse z3 =>
          simp only [decide_eq_true_eq] at z3
          exact ex fun y => z3 y.2.2
        case isTrue z3 =>
          refine at_ok i1 z fun r hr => ?_
          have lr := hg.row hr
          refine at_ok i2 (by omega) fun c hc => ?_
          refine ok_imp (P := fun o => ∃ f b t, o = .nx (f, b, t) ∧ (∀ q ∈ f, Ly R C q) ∧ f ≠ [] ∧ (f.length : Int) ≤ row + col + 1) ?_ ?_
          · split
            · rename_i e
              walk_at "w"
              refine draw_ok _ _ (by omega) (by omega) fun number => ?_
              refine ok_imp (P := fun o => ∃ a b : Int, o = .nx (a, b)) ?_ ?_
              · split <;> walk_at "w" <;> exact ⟨_, _, rfl⟩
              rintro _ ⟨a, b, rfl⟩
              walk_at "w"
              refine sign_ok _ hL fun s hs => ?_
              have lo : lowOk [s] := ⟨by simp, by unfold Sg at hs; simp; omega⟩
              refine ok_imp (P := fun o => ∃ s, o = .nx [s] ∧ Sg s) ?_ ?_
              · split
                · walk_at "w"
                  exact ⟨lo, _, rfl, loC_sg hs⟩
                · walk_at "w"; exact ⟨_, rfl, hs⟩
              rintro _ ⟨s, rfl, hs⟩
              have lo : lowOk [s] := ⟨by simp, by unfold Sg at hs; simp; omega⟩
              walk_at "w"
              refine ⟨lo, len_lt (by omega), _, _, _, rfl, fun q hq => ?_, by simp, by rw [List.length_append]; simp; omega⟩
              rcases List.mem_append.mp hq with m | m
              · exact i4 q m
              · rw [List.mem_singleton.mp m]; exact ⟨i1, by dsimp only; omega, i2, by dsimp only; omega, s, hs, rfl⟩
            · rename_i e
              simp only [decide_eq_true_eq] at e
              walk_at "w"
              refine ⟨_, _, _, rfl, i4, fun z => e ?_, by omega⟩
              obtain ⟨_, _, r', e1, e2⟩ := i5 z
              dsimp only at e1 e2
              rw [hr] at e1
              cases e1
              rw [hc] at e2
              cases e2
              rfl
          · rintro _ ⟨f, b, t, rfl, f1, f2, f3⟩
            walk_at "w"
            refine ⟨⟨by omega, by omega, by omega, by omega, by omega, f1, fun z => absurd z f2⟩, by omega⟩
end T20

namespace T20
open PySem L2 Lr
local macro_rules | `(tactic| walk_at "w") => `(tactic| simp only [ok_bind, ok_ok, ok_gd, ok_ne, ok_fin, ok_finU, ok_finI, ok_seq, fn_rt, fnU_rt, fnU_nx, fnI_nx, sq_nx, sq_rt, sq_bk, sq_ct, lp_nx, lp_rt, lp_bk, lp_ct, ok_imul, ok_idiv, ok_imod, ok_add, ok_app, ok_mul, ok_rg1, ok_rg2, ok_join, ok_low, ok_upp, R.bind_ok, Bool.true_and, Bool.not_true, Bool.not_false, if_true, if_false, Bool.false_eq_true, Bool.or_true, Bool.true_or, Bool.false_or])
theorem are_rows_ok {m : List (List Nat)} {R C : Nat} (h1 : m.length = R) (h2 : ∀ r ∈ m, r.length = C) (b : 1 ≤ R ∧ R ≤ 9 ∧ 1 ≤ C ∧ C ≤ 9) {P : Bool → Prop} (h : P true) : (t_are_rows m).Ok P := by
  unfold t_are_rows
  rw [if_neg (by simp; omega)]
  walk_at "w"
  refine ok_forA (fun _ => True) (len_le (by omega)) trivial (fun x hx l _ => ?_) fun l _ => by walk_at "w"; exact h
  have lx := h2 x hx
  rw [if_neg (by simp; omega)]
  walk_at "w"
  refine at_ok (by omega) (by omega) fun r0 h0 => ?_
  have l0 := h2 r0 (List.mem_of_getElem? h0)
  rw [if_neg (by simp; omega)]
  walk_at "w"
theorem inS1 {c : Nat} {b : List Nat} (h : c ∈ b) : inS [c] b = true := decide_eq_true h
theorem is_sign_ok {c : Nat} (h : Sg c) : t_is_sign [c] = .ok true := by
  refine Lr.R.Ok.eq ?_
  unfold t_is_sign
  walk_at "w"
  rw [if_pos (by simp)]
  walk_at "w"
  refine ⟨len_le (by decide), inS1 ?_⟩
  unfold Sg at h
  rcases h with h | h
  · exact List.mem_append_left _ (lowL_mem.mpr h)
  · refine List.mem_append_right _ ?_
    unfold upL
    exact List.mem_map.mpr ⟨c - 65, List.mem_range.mpr (by omega), by omega⟩
theorem sum_len {m : List (List Nat)} {C : Nat} (h : ∀ r ∈ m, r.length = C) : (m.map List.length).sum = m.length * C := by
  induction m with
  | nil => simp
  | cons x m ih => rw [List.map_cons, List.sum_cons, ih fun r hr => h r (List.mem_cons_of_mem _ hr), h x List.mem_cons_self, List.length_cons, Nat.succ_mul]; omega
theorem flat_len {m : List (List Nat)} {C : Nat} (h : ∀ r ∈ m, r.length = C) : m.flatten.length = m.length * C := by rw [List.length_flatten, sum_len h]
theorem sgs_mem {x : List Nat} {z : List Nat} (h : x ∈ sgs z) : ∃ c ∈ z, x = [c] := by
  unfold sgs at h
  obtain ⟨c, a, rfl⟩ := List.mem_map.mp h
  exact ⟨c, a, rfl⟩
theorem sgs_len {z : List Nat} : (sgs z).length = z.length := by unfold sgs; simp
theorem all_t {α : Type} (xs : List α) : (xs.map fun _ => true).all id = true := by simp
theorem board_ok {g m : List (List Nat)} {R C : Nat} (hg : Gd R C g) (hm : m.length = R) (hm2 : ∀ r ∈ m, MkS C r) : t_Board g m (0, 0) = .ok (g, m, (0, 0)) := by
  refine Lr.R.Ok.eq ?_
  obtain ⟨g1, g2, b⟩ := hg
  have g3 : ∀ r ∈ g, r.length = C := fun r hr => (g2 r hr).1
  have m3 : ∀ r ∈ m, r.length = C := fun r hr => (hm2 r hr).1
  have rc : R * C ≤ 9 * 9 := Nat.mul_le_mul b.2.1 b.2.2.2
  unfold t_Board
  walk_at "w"
  refine are_rows_ok g1 g3 b ?_
  rw [if_neg (by simp)]
  walk_at "w"
  refine are_rows_ok hm m3 b ?_
  rw [if_neg (by simp), if_neg (by simp; omega)]
  walk_at "w"
  refine at_ok (by omega) (by omega) fun g0 hg0 => at_ok (by omega) (by omega) fun m0 hm0 => ?_
  have l0 := g3 g0 (List.mem_of_getElem? hg0)
  have l1 := m3 m0 (List.mem_of_getElem? hm0)
  rw [if_neg (by simp; omega)]
  unfold t_is_cell t_is_whole
  walk_at "w"
  rw [if_neg (by simp)]
  walk_at "w"
  rw [if_pos (by simp only [Bool.and_eq_true, decide_eq_true_eq]; omega), if_pos (by simp)]
  walk_at "w"
  refine at_ok (by omega) (by omega) fun g4 hg4 => ?_
  have l4 := g3 g4 (List.mem_of_getElem? hg4)
  rw [if_neg (by simp only [Bool.not_eq_true', decide_eq_false_iff_not]; omega)]
  walk_at "w"
  refine ⟨len_le (by rw [sum_len g3]; simp; rw [g1]; omega), ?_⟩
  rw [joinL_nil]
  rw [lcR_map (fun _ => true) (len_le (by rw [sgs_len, flat_len g3, g1]; omega)) (fun _ _ => rfl) fun x hx => by
    obtain ⟨c, hc, rfl⟩ := sgs_mem hx
    obtain ⟨r, hr, hcr⟩ := List.mem_flatten.mp hc
    rcases (g2 r hr).2 c hcr with rfl | z
    · rw [if_pos (by decide)]
    · rw [if_neg (by unfold Sg at z; simp; omega)]; exact is_sign_ok z]
  walk_at "w"
  rw [all_t, if_neg (by simp)]
  walk_at "w"
  refine ⟨len_le (by rw [sum_len m3]; simp; rw [hm]; omega), ?_⟩
  rw [joinL_nil]
  rw [lcR_map (fun _ => true) (len_le (by rw [sgs_len, flat_len m3, hm]; omega)) (fun _ _ => rfl) fun x hx => by
    obtain ⟨c, hc, rfl⟩ := sgs_mem hx
    obtain ⟨r, hr, hcr⟩ := List.mem_flatten.mp hc
    rw [inS1 ((hm2 r hr).2 c hcr)]]
  walk_at "w"
  rw [all_t, if_neg (by simp)]
  walk_at "w"
/-- the grid of signs -/
def Sh (R C : Nat) (G : List (List (List Nat))) : Prop := G.length = R ∧ ∀ x ∈ G, x.length = C ∧ ∀ s ∈ x, ∃ c, (c = 46 ∨ Sg c) ∧ s = [c]
theorem ixN_in {n : Nat} {i : Int} (h0 : 0 ≤ i) (h1 : i < n) : ixN n i = some i.toNat := by
  unfold ixN
  rw [if_pos h0, if_pos h1]
theorem setZ_ok {R C : Nat} {G : List (List (List Nat))} {q : Tri} (h : Sh R C G) (hq : Ly R C q) : ∃ G', setZ G q = .ok G' ∧ Sh R C G' := by
  obtain ⟨h1, h2⟩ := h
  obtain ⟨q0, q1, q2, q3, c, hc, qe⟩ := hq
  have hi : q.1.toNat < G.length := by omega
  have hx := h2 _ (List.getElem_mem hi)
  refine ⟨G.set q.1.toNat (G[q.1.toNat].set q.2.1.toNat q.2.2), ?_, by rw [List.length_set]; exact h1, fun x hm => ?_⟩
  · unfold setZ
    rw [ixN_in q0 (by omega)]
    simp only [List.getElem?_eq_getElem hi]
    rw [hx.1, ixN_in q2 q3]
  · rcases List.mem_or_eq_of_mem_set hm with m | m
    · exact h2 x m
    · rw [m]
      refine ⟨by rw [List.length_set]; exact hx.1, fun s hs => ?_⟩
      rcases List.mem_or_eq_of_mem_set hs with m | m
      · exact hx.2 s m
      · exact ⟨c, .inr hc, m.trans qe⟩
theorem laidZ_ok {R C : Nat} : ∀ {y : List Tri} {G : List (List (List Nat))}, Sh R C G → (∀ q ∈ y, Ly R C q) → ∃ G', laidZ G y = .ok G' ∧ Sh R C G'
  | [], G, h, _ => ⟨G, rfl, h⟩
  | q :: y, G, h, hy => by
    obtain ⟨G1, e1, h1⟩ := setZ_ok h (hy q List.mem_cons_self)
    obtain ⟨G2, e2, h2⟩ := laidZ_ok h1 fun q hq => hy q (List.mem_cons_of_mem _ hq)
    refine ⟨G2, ?_, h2⟩
    unfold laidZ
    rw [e1]
    exact e2
theorem flat1 {x : List (List Nat)} (h : ∀ s ∈ x, ∃ c, (c = 46 ∨ Sg c) ∧ s = [c]) : sgs x.flatten = x ∧ (x.map List.length).sum = x.length ∧ x.flatten.length = x.length ∧ ∀ c ∈ x.flatten, c = 46 ∨ Sg c := by
  induction x with
  | nil => exact ⟨rfl, rfl, rfl, fun c hc => by simp at hc⟩
  | cons s x ih =>
    obtain ⟨c, hc, rfl⟩ := h s List.mem_cons_self
    obtain ⟨a, b, d, e⟩ := ih fun s hs => h s (List.mem_cons_of_mem _ hs)
    refine ⟨?_, by rw [List.map_cons, List.sum_cons, b]; simp; omega, by rw [List.flatten_cons, List.length_append, d]; simp; omega, fun z hz => ?_⟩
    · show [c] :: sgs x.flatten = _
      rw [a]
    · rw [List.flatten_cons] at hz
      rcases List.mem_append.mp hz with m | m
      · rw [List.mem_singleton.mp m]; exact hc
      · exact e z m
theorem grid_ok {g : List (List Nat)} {R C : Nat} (hg : Gd R C g) {y : List Tri} (hy : ∀ q ∈ y, Ly R C q) (yl : y.length ≤ 100) : ∃ g', gridZ g y = .ok (g'.map sgs) ∧ laidT g y = .ok g' ∧ Gd R C g' := by
  obtain ⟨g1, g2, b⟩ := hg
  have sh : Sh R C (g.map sgs) := ⟨by rw [List.length_map]; exact g1, fun x hx => by
    obtain ⟨r, hr, rfl⟩ := List.mem_map.mp hx
    refine ⟨by rw [sgs_len]; exact (g2 r hr).1, fun s hs => ?_⟩
    obtain ⟨c, hc, rfl⟩ := sgs_mem hs
    exact ⟨c, (g2 r hr).2 c hc, rfl⟩⟩
  obtain ⟨G, e, h1, h2⟩ := laidZ_ok sh hy
  have eg : gridZ g y = .ok G := by
    unfold gridZ
    rw [Lr.R.gd_t ⟨len_le (by omega), fun x hx => len_le (by rw [(g2 x hx).1]; omega), len_le (by omega)⟩, e]
  have back : (G.map List.flatten).map sgs = G := by
    rw [List.map_map]
    refine (List.map_congr_left (g := id) fun x hx => (flat1 (h2 x hx).2).1).trans (List.map_id _)
  refine ⟨G.map List.flatten, by rw [back]; exact eg, ?_, by rw [List.length_map]; exact h1, fun r hr => ?_, b⟩
  · unfold laidT
    rw [eg, Lr.R.bind_ok, Lr.R.gd_t fun x hx => len_le (by rw [(flat1 (h2 x hx).2).2.1, (h2 x hx).1]; omega)]
  · obtain ⟨x, hx, rfl⟩ := List.mem_map.mp hr
    obtain ⟨_, _, d, e⟩ := flat1 (h2 x hx).2
    exact ⟨d.trans (h2 x hx).1, e⟩
end T20

namespace T20
open PySem L2 Lr
local macro_rules | `(tactic| walk_at "w") => `(tactic| simp only [ok_bind, ok_ok, ok_gd, ok_ne, ok_fin, ok_finU, ok_finI, ok_seq, fn_rt, fnU_rt, fnU_nx, fnI_nx, sq_nx, sq_rt, sq_bk, sq_ct, lp_nx, lp_rt, lp_bk, lp_ct, ok_imul, ok_idiv, ok_imod, ok_add, ok_app, ok_mul, ok_rg1, ok_rg2, ok_join, ok_low, ok_upp, R.bind_ok, Bool.true_and, Bool.not_true, Bool.not_false, if_true, if_false, Bool.false_eq_true, Bool.or_true, Bool.true_or, Bool.false_or])
/-- what lies on a cell -/
def cel (R C : Nat) (g : List (List Nat)) (i j : Int) : Nat := if 0 ≤ i ∧ i < R ∧ 0 ≤ j ∧ j < C then ((g[i.toNat]?.getD [])[j.toNat]?).getD 46 else 46
theorem cel_out {R C : Nat} {g : List (List Nat)} {i j : Int} (h : ¬ (0 ≤ i ∧ i < R ∧ 0 ≤ j ∧ j < C)) : cel R C g i j = 46 := if_neg h
theorem cel_in {R C : Nat} {g : List (List Nat)} (hg : Gd R C g) {i j : Int} (h : 0 ≤ i ∧ i < R ∧ 0 ≤ j ∧ j < C) : ∃ r, g[i.toNat]? = some r ∧ r.length = C ∧ r[j.toNat]? = some (cel R C g i j) := by
  have hi : i.toNat < g.length := by rw [hg.1]; omega
  have e : g[i.toNat]? = some g[i.toNat] := List.getElem?_eq_getElem hi
  have l := hg.row e
  refine ⟨_, e, l, ?_⟩
  unfold cel
  rw [if_pos h, e]
  rw [Option.getD_some, List.getElem?_eq_getElem (by omega), Option.getD_some]
theorem at_cel {R C : Nat} {g : List (List Nat)} (hg : Gd R C g) (m : List (List Nat)) (b : Int × Int) (i j : Int) : t_Board_at (g, m, b) i j = .ok [cel R C g i j] := by
  have b1 := hg.1
  have b2 := hg.2.2
  refine Lr.R.Ok.eq ?_
  unfold t_Board_at
  walk_at "w"
  by_cases h1 : 0 ≤ i ∧ i < R
  · rw [if_neg (by simp only [Bool.not_eq_true', Bool.and_eq_false_iff, decide_eq_false_iff_not]; omega)]
    by_cases h2 : 0 ≤ j
    · rw [if_pos (by simpa using h2)]
      walk_at "w"
      refine at_ok (by omega) (by omega) fun r0 h0 => ?_
      have l0 := hg.row h0
      by_cases h3 : j < C
      · obtain ⟨r, e1, e2, e3⟩ := cel_in hg (i := i) (j := j) ⟨h1.1, h1.2, h2, h3⟩
        rw [if_neg (by simp only [Bool.not_eq_true', decide_eq_false_iff_not]; omega)]
        walk_at "w"
        refine at_ok h1.1 (by omega) fun r' q1 => ?_
        rw [e1] at q1
        cases q1
        refine at_ok h2 (by omega) fun c q2 => ?_
        rw [e3] at q2
        cases q2
        rfl
      · rw [if_pos (by simp only [Bool.not_eq_true', decide_eq_false_iff_not]; omega), cel_out fun z => h3 z.2.2.2]
        walk_at "w"
    · rw [if_neg (by simpa using h2)]
      walk_at "w"
      rw [cel_out fun z => h2 z.2.2.1]
  · rw [if_pos (by simp only [Bool.not_eq_true', Bool.and_eq_false_iff, decide_eq_false_iff_not]; omega)]
    walk_at "w"
    rw [cel_out fun z => h1 ⟨z.1, z.2.1⟩]
theorem grid_cel {R C : Nat} {g : List (List Nat)} (hg : Gd R C g) {i j : Int} (h : 0 ≤ i ∧ i < R ∧ 0 ≤ j ∧ j < C) {P : List Nat → Prop} (p : P [cel R C g i j]) : (atR (g.map sgs) i).Ok fun x => (atR x j).Ok P := by
  obtain ⟨r, e1, e2, e3⟩ := cel_in hg h
  have b1 := hg.1
  refine at_ok h.1 (by rw [List.length_map]; omega) fun x hx => ?_
  rw [List.getElem?_map, e1] at hx
  cases hx
  refine at_ok h.2.2.1 (by rw [sgs_len]; omega) fun s hs => ?_
  unfold sgs at hs
  rw [List.getElem?_map, e3] at hs
  cases hs
  exact p
def dw (w : Int) : Prop := w = 0 ∨ w = 1
theorem run_two {R C : Nat} {g : List (List Nat)} (hg : Gd R C g) (m : List (List Nat)) (b : Int × Int) {r c w : Int} (hr : 0 ≤ r ∧ r < R) (hc : 0 ≤ c ∧ c < C) (hw : dw w) :
    Lr.R.Two (t_Board_run (g, m, b) r c w) (t__law_run (g.map sgs) r c w) fun a a2 => a2 = (a.1, a.2.1, w, a.2.2) := by
  have b1 := hg.1
  have b2 := hg.2.2
  unfold t_Board_run t__law_run
  refine two_fin ?_
  rw [Lr.R.bind_ok, Lr.R.bind_ok]
  refine two_seq (fun (l l2 : Int × Int) => l = l2 ∧ 0 ≤ l.1 ∧ l.1 < R ∧ 0 ≤ l.2 ∧ l.2 < C) (two_wh (fun (l l2 : Int × Int) => l = l2 ∧ 0 ≤ l.1 ∧ l.1 < R ∧ 0 ≤ l.2 ∧ l.2 < C) (fun l : Int × Int => (l.1 + l.2).toNat) ⟨rfl, hr.1, hr.2, hc.1, hc.2⟩ (by dsimp only; omega) ?_) ?_
  · rintro ⟨i, j⟩ _ ⟨rfl, h1, h2, h3, h4⟩
    dsimp only at h1 h2 h3 h4 ⊢
    refine ⟨!decide ([cel R C g (i - w) (j - (1 - w))] = ([46] : List Nat)), by rw [at_cel hg]; rfl, ?_, ?_⟩
    · refine Lr.R.Ok.eq ?_
      by_cases z1 : i ≥ w
      · rw [if_pos (by simpa using z1)]
        by_cases z2 : j ≥ 1 - w
        · rw [if_pos (by simpa using z2)]
          walk_at "w"
          rw [show j - 1 + w = j - (1 - w) by omega]
          refine grid_cel hg ?_ rfl
          rcases hw with rfl | rfl <;> omega
        · rw [if_neg (by simpa using z2), cel_out (by rcases hw with rfl | rfl <;> omega)]
          walk_at "w"
          decide
      · rw [if_neg (by simpa using z1), cel_out (by rcases hw with rfl | rfl <;> omega)]
        walk_at "w"
        decide
    · intro t
      have : 0 ≤ i - w ∧ i - w < R ∧ 0 ≤ j - (1 - w) ∧ j - (1 - w) < C := by
        by_cases z : 0 ≤ i - w ∧ i - w < R ∧ 0 ≤ j - (1 - w) ∧ j - (1 - w) < C
        · exact z
        · rw [cel_out z] at t; simp at t
      refine ⟨_, _, rfl, rfl, ⟨?_, this⟩, ?_⟩
      · rw [show j - 1 + w = j - (1 - w) by omega]
      · dsimp only
        omega
  · rintro ⟨i, j⟩ _ ⟨rfl, h1, h2, h3, h4⟩
    dsimp only at h1 h2 h3 h4 ⊢
    rw [Lr.R.bind_ok, Lr.R.bind_ok, Lr.R.bind_ok]
    refine two_seq (fun (l : List Nat) (l2 : List Nat × (Int × Int)) => l = l2.1 ∧ (l.length : Int) ≤ 9 ∧ l2.2 = (i + w * (l.length : Int), j + (1 - w) * (l.length : Int))) (two_wh (fun (l : List Nat) (l2 : List Nat × (Int × Int)) => l = l2.1 ∧ (l.length : Int) ≤ 9 ∧ l2.2 = (i + w * (l.length : Int), j + (1 - w) * (l.length : Int))) (fun l : List Nat => 10 - l.length) ?_ ?_ ?_) ?_
    · exact ⟨rfl, by show ((0 : Nat) : Int) ≤ 9; omega, by show (i, j) = (i + w * ((0 : Nat) : Int), j + (1 - w) * ((0 : Nat) : Int)); rw [Int.natCast_zero, Int.mul_zero, Int.mul_zero, Int.add_zero, Int.add_zero]⟩
    · show 10 - 0 < 16777216; omega
    · rintro s ⟨_, h⟩ ⟨rfl, k1, k2⟩
      dsimp only at k1 k2 ⊢
      subst k2
      have a1 : okMul w (s.length : Int) := okMul_r ⟨by omega, by omega⟩
      have a2 : okMul (1 - w) (s.length : Int) := okMul_r ⟨by omega, by omega⟩
      have i1 : imulR w (s.length : Int) = .ok (w * (s.length : Int)) := Lr.R.gd_t a1
      have i2 : imulR (1 - w) (s.length : Int) = .ok ((1 - w) * (s.length : Int)) := Lr.R.gd_t a2
      have p0 : 0 ≤ i + w * (s.length : Int) ∧ 0 ≤ j + (1 - w) * (s.length : Int) ∧ ((s.length : Int) ≤ i + w * (s.length : Int) ∨ (s.length : Int) ≤ j + (1 - w) * (s.length : Int)) := by
        rcases hw with rfl | rfl <;> simp <;> omega
      have nx1 : i + w * ((s.length + 1 : Nat) : Int) = i + w * (s.length : Int) + w := by rcases hw with rfl | rfl <;> simp <;> omega
      have nx2 : j + (1 - w) * ((s.length + 1 : Nat) : Int) = j + (1 - w) * (s.length : Int) + 1 - w := by rcases hw with rfl | rfl <;> simp <;> omega
      simp only [i1, i2, Lr.R.bind_ok, at_cel hg]
      generalize i + w * (s.length : Int) = u at *
      generalize j + (1 - w) * (s.length : Int) = v at *
      refine ⟨!decide ([cel R C g u v] = ([46] : List Nat)), rfl, ?_, ?_⟩
      · refine Lr.R.Ok.eq ?_
        by_cases z1 : u < R
        · rw [if_pos (by simp only [decide_eq_true_eq, List.length_map]; omega)]
          walk_at "w"
          refine at_ok (by omega) (by rw [List.length_map]; omega) fun x0 hx0 => ?_
          have l0 : x0.length = C := by
            rw [List.getElem?_map, Option.map_eq_some_iff] at hx0
            obtain ⟨r0, e, rfl⟩ := hx0
            rw [sgs_len]; exact hg.row e
          by_cases z2 : v < C
          · rw [if_pos (by simp only [decide_eq_true_eq]; omega)]
            walk_at "w"
            exact grid_cel hg ⟨p0.1, z1, p0.2.1, z2⟩ rfl
          · rw [if_neg (by simp only [decide_eq_true_eq]; omega), cel_out fun z => z2 z.2.2.2]
            walk_at "w"
            decide
        · rw [if_neg (by simp only [decide_eq_true_eq, List.length_map]; omega), cel_out fun z => z1 z.2.1]
          walk_at "w"
          decide
      · intro t
        have z : 0 ≤ u ∧ u < R ∧ 0 ≤ v ∧ v < C := by
          by_cases z : 0 ≤ u ∧ u < R ∧ 0 ≤ v ∧ v < C
          · exact z
          · rw [cel_out z] at t; simp at t
        have ad : addR s [cel R C g u v] = .ok (s ++ [cel R C g u v]) := Lr.R.gd_t (len_le (by simp; omega))
        obtain ⟨y, e, y2⟩ := (grid_cel hg z (P := fun y => y = [cel R C g u v]) rfl).get
        have e3 := Lr.R.Ok.eq y2
        refine ⟨s ++ [cel R C g u v], (s ++ [cel R C g u v], (u + w, v + 1 - w)), by rw [ad]; rfl, ?_, ⟨rfl, ?_, ?_⟩, ?_⟩
        · rw [e, Lr.R.bind_ok, e3, Lr.R.bind_ok, ad]; rfl
        · rw [List.length_append]; simp; omega
        · rw [show (s ++ [cel R C g u v]).length = s.length + 1 by simp, nx1, nx2]
        · rw [show (s ++ [cel R C g u v]).length = s.length + 1 by simp]; omega
    · rintro s ⟨_, h⟩ ⟨rfl, _, _⟩
      exact ⟨_, _, rfl, rfl, _, _, rfl, rfl, rfl⟩
end T20

namespace T20
open PySem L2 Lr
local macro_rules | `(tactic| walk_at "w") => `(tactic| simp only [ok_bind, ok_ok, ok_gd, ok_ne, ok_fin, ok_finU, ok_finI, ok_seq, fn_rt, fnU_rt, fnU_nx, fnI_nx, sq_nx, sq_rt, sq_bk, sq_ct, lp_nx, lp_rt, lp_bk, lp_ct, ok_imul, ok_idiv, ok_imod, ok_add, ok_app, ok_mul, ok_rg1, ok_rg2, ok_join, ok_low, ok_upp, R.bind_ok, Bool.true_and, Bool.not_true, Bool.not_false, if_true, if_false, Bool.false_eq_true, Bool.or_true, Bool.true_or, Bool.false_or])
noncomputable def rv (o : Ty_Board) (r c w : Int) : Int × Int × List Nat := match t_Board_run o r c w with
  | .ok v => v
  | _ => (0, 0, [])
noncomputable def Fv (o : Ty_Board) (q : Tri) (w : Int) : T4 := ((rv o q.1 q.2.1 w).1, (rv o q.1 q.2.1 w).2.1, w, (rv o q.1 q.2.1 w).2.2)
theorem run_eq {R C : Nat} {g : List (List Nat)} (hg : Gd R C g) (m : List (List Nat)) (b : Int × Int) {q : Tri} {w : Int} (hq : Ly R C q) (hw : dw w) :
    t_Board_run (g, m, b) q.1 q.2.1 w = .ok (rv (g, m, b) q.1 q.2.1 w) ∧ t__law_run (g.map sgs) q.1 q.2.1 w = .ok (Fv (g, m, b) q w) := by
  obtain ⟨a, a2, e1, e2, h⟩ := run_two hg m b (r := q.1) (c := q.2.1) ⟨hq.1, hq.2.1⟩ ⟨hq.2.2.1, hq.2.2.2.1⟩ hw
  have e : rv (g, m, b) q.1 q.2.1 w = a := by unfold rv; rw [e1]
  refine ⟨by rw [e]; exact e1, ?_⟩
  unfold Fv
  rw [e, e2, h]
def big (v : T4) : Bool := decide (((v.2.2.2.length : Nat) : Int) > (1 : Int))
theorem wf_ok {g m : List (List Nat)} {R C : Nat} (hg : Gd R C g) (hm : m.length = R) (hm2 : ∀ r ∈ m, MkS C r) {y : List Tri} (hy : ∀ q ∈ y, Ly R C q) (yn : y ≠ []) (yl : y.length ≤ 100) :
    ∃ V : List T4, V.length ≤ 101 ∧ t__law_words g y = .ok V ∧ t_formed (g, m, (0, 0)) y = .ok V := by
  obtain ⟨g', eg, el, hg'⟩ := grid_ok hg hy yl
  have yp : 0 < y.length := List.length_pos_iff.mpr yn
  obtain ⟨q0, r0, rfl⟩ : ∃ q0 r0, y = q0 :: r0 := by
    cases y with
    | nil => exact absurd rfl yn
    | cons a b => exact ⟨a, b, rfl⟩
  have hq0 := hy q0 List.mem_cons_self
  have e0 : atR (q0 :: r0) 0 = .ok q0 := at_eq (n := 0) rfl rfl
  have e1 : atR (q0 :: r0) (-(1 : Int)) = .ok ((q0 :: r0).getLast yn) := Lr.R.Ok.eq (at_last yn rfl)
  generalize (q0 :: r0).getLast yn = ql at e1
  generalize hy' : q0 :: r0 = y at *
  have hln : dw (if (!decide (q0.1 = ql.1)) = true then (1 : Int) else 0) := by split <;> first | exact .inl rfl | exact .inr rfl
  have ew : (if (!decide (q0.1 = ql.1)) = true then (1 : Int) else 0) = (if (!decide (q0.1 = ql.1)) = true then (1 : Int) else 0) := rfl
  generalize hlv : (if (!decide (q0.1 = ql.1)) = true then (1 : Int) else 0) = w at *
  have hln1 : dw (1 - w) := by unfold dw at hln ⊢; omega
  refine ⟨(Fv (g', m, (0, 0)) q0 w :: y.map fun q => Fv (g', m, (0, 0)) q (1 - w)).filter big, ?_, ?_, ?_⟩
  · exact Nat.le_trans (List.length_filter_le _ _) (by simp; omega)
  · refine Lr.R.Ok.eq ?_
    unfold t__law_words t__law_grid
    simp only [eg, e0, e1, Lr.R.bind_ok, hlv, (run_eq hg' m (0, 0) hq0 hln).2]
    walk_at "w"
    refine ok_for (fun k l => l = Fv (g', m, (0, 0)) q0 w :: (y.take k).map fun q => Fv (g', m, (0, 0)) q (1 - w)) (len_le (by omega)) rfl (fun k x l hx i => ?_) fun l i => ?_
    · have hk := (List.getElem?_eq_some_iff.mp hx).1
      simp only [(run_eq hg' m (0, 0) (hy x (List.mem_of_getElem? hx)) hln1).2, Lr.R.bind_ok]
      walk_at "w"
      subst i
      refine ⟨len_lt (by simp; omega), ?_⟩
      rw [List.take_add_one, hx]
      simp
    · rw [List.take_length] at i
      subst i
      walk_at "w"
      exact ok_of (lcR_filter big id (len_le (by simp; omega)) (fun _ _ => rfl) fun _ _ _ => rfl) (by rw [List.map_id])
  · refine Lr.R.Ok.eq ?_
    unfold t_formed t_Board_laid t_way_of
    simp only [el, board_ok hg' hm hm2, e0, e1, Lr.R.bind_ok]
    walk_at "w"
    rw [hlv, lcR_map (fun q => (q, 1 - w)) (len_le (by omega)) (fun _ _ => rfl) fun _ _ => rfl]
    walk_at "w"
    refine ⟨len_le (by simp; omega), ?_⟩
    refine ok_for (fun k l => l = ((([(q0, w)] ++ y.map fun q => (q, 1 - w)).take k).map fun p => Fv (g', m, (0, 0)) p.1 p.2).filter big) (len_le (by simp; omega)) rfl (fun k x l hx i => ?_) fun l i => ?_
    · have hk := (List.getElem?_eq_some_iff.mp hx).1
      have hx2 : Ly R C x.1 ∧ dw x.2 := by
        have := List.mem_of_getElem? hx
        rcases List.mem_append.mp this with z | z
        · rw [List.mem_singleton.mp z]; exact ⟨hq0, hln⟩
        · obtain ⟨q, hq, rfl⟩ := List.mem_map.mp z
          exact ⟨hy q hq, hln1⟩
      simp only [(run_eq hg' m (0, 0) hx2.1 hx2.2).1, Lr.R.bind_ok]
      have ll : l.length ≤ 101 := by
        rw [i]
        refine Nat.le_trans (List.length_filter_le _ _) ?_
        rw [List.length_map, List.length_take]
        simp
        omega
      have nx : (((([(q0, w)] ++ y.map fun q => (q, 1 - w)).take (k + 1)).map fun p => Fv (g', m, (0, 0)) p.1 p.2).filter big) = l ++ [Fv (g', m, (0, 0)) x.1 x.2].filter big := by
        rw [List.take_add_one, hx, i, List.map_append, List.filter_append]
        rfl
      split
      · rename_i z
        walk_at "w"
        refine ⟨len_lt (by omega), ?_⟩
        rw [nx, List.filter_cons_of_pos (by exact z)]
        rfl
      · rename_i z
        walk_at "w"
        rw [nx, List.filter_cons_of_neg (by exact z), List.filter_nil, List.append_nil]
    · walk_at "w"
      rw [List.take_length] at i
      rw [i, List.map_append, List.map_map]
      rfl
theorem law_ok (ns : List Int) (hn : ns.length ≤ 63) : t_law ns = .ok true := by
  refine Lr.R.Ok.eq ?_
  unfold t_law
  walk_at "w"
  refine cell_at_ok ns 0 (by omega) fun c0 => letters_ok c0 fun L hL => ?_
  refine rows_ok ns hL fun g R C hg hf => ?_
  refine cell_at_ok ns 2 (by omega) fun c2 => marks_ok c2 hg fun m hm hm2 => ?_
  refine ok_of (board_ok hg hm hm2) ?_
  have cl : (cutL ns (some 3) (some 63)).length ≤ 63 := by
    unfold cutL
    rw [List.length_take, List.length_drop]
    omega
  refine ok_forA (fun _ => True) (len_le (by omega)) trivial (fun cell _ l _ => ?_) fun l _ => by walk_at "w"
  walk_at "w"
  refine draw_ok _ _ (by omega) (by omega) fun d => straight_ok hg hf d hL _ (by omega) fun y yn yl hy => ?_
  obtain ⟨V, v1, e1, e2⟩ := wf_ok hg hm hm2 hy yn yl
  have al : t__law_alike V V = .ok true := by
    unfold t__law_alike
    rw [if_pos rfl, Lr.R.gd_t (len_le (by omega))]
  simp only [e1, e2, al, Lr.R.bind_ok]
  walk_at "w"
  refine ok_of al ?_
  rw [if_neg (by simp)]
  walk_at "w"
  refine ok_of al ?_
  walk_at "w"
  rw [if_neg (by simp)]
  walk_at "w"
theorem law_true : LawTrue F_law := law_of_tf tf_law law_ok
end T20

open PySem PySem.W PyProof.Rows in
set_option maxRecDepth 100000 in
set_option maxHeartbeats 0 in
theorem PySem.Challenge.cw_letterrack_k20_words_that_are_formed_holds : PySem.Challenge.rw_letterrack_k20_words_that_are_formed.Holds := by
  w_on; o_law; k_head; (case hw => w_witness2)
  k_fill
  refine Lr.law_walk (l := PySem.Challenge.rw_letterrack_k20_words_that_are_formed) (k := 13) (nm := T20.nm) (F := T20.F_law) (x := "law") rfl rfl ⟨by decide, by decide, by decide⟩ (fun w h Y => PySem.W.kIn_of Y) rfl T20.law_true ?F
  case F =>
    intro w mg h KX G
    refine' T20.all_mk KX G ?z_all ?z_bool ?z_int ?z_isinstance ?z_len ?z_list ?z_range ?z_str ?z_tuple ?z_zip ?z_FREE ?z_GREAT ?z_LETTERS ?z_MARKS ?z_MOST_CELLS ?aC_Board ?pg_Board ?hd_Board ?po_Board ?sa_Board ?n_Board_rows ?n_Board_marks ?n_Board_begin ?mk_Board ?kc_Board ?a_are_rows ?l_are_rows ?c_are_rows ?k_are_rows ?a_is_whole ?l_is_whole ?c_is_whole ?k_is_whole ?a_is_cell ?l_is_cell ?c_is_cell ?k_is_cell ?a_is_sign ?l_is_sign ?c_is_sign ?k_is_sign ?a_Board___init__ ?i_Board___init__ ?l_Board___init__ ?c_Board___init__ ?k_Board___init__ ?a__law_alike ?l__law_alike ?c__law_alike ?k__law_alike ?a__law_cell_at ?l__law_cell_at ?c__law_cell_at ?k__law_cell_at ?a__law_draw ?l__law_draw ?c__law_draw ?k__law_draw ?a__law_letters ?l__law_letters ?c__law_letters ?k__law_letters ?a__law_marks ?l__law_marks ?c__law_marks ?k__law_marks ?a__law_sign ?l__law_sign ?c__law_sign ?k__law_sign ?a__law_rows ?l__law_rows ?c__law_rows ?k__law_rows ?a__law_is_near ?l__law_is_near ?c__law_is_near ?k__law_is_near ?a__law_starts ?l__law_starts ?c__law_starts ?k__law_starts ?a__law_straight ?l__law_straight ?c__law_straight ?k__law_straight ?a__law_grid ?l__law_grid ?c__law_grid ?k__law_grid ?a__law_run ?l__law_run ?c__law_run ?k__law_run ?a__law_words ?l__law_words ?c__law_words ?k__law_words ?a_Board_laid ?i_Board_laid ?l_Board_laid ?c_Board_laid ?k_Board_laid ?a_Board_at ?i_Board_at ?l_Board_at ?c_Board_at ?k_Board_at ?a_Board_run ?i_Board_run ?l_Board_run ?c_Board_run ?k_Board_run ?a_way_of ?l_way_of ?c_way_of ?k_way_of ?a_formed ?l_formed ?c_formed ?k_formed ?a_law ?l_law ?c_law ?k_law
    (case z_all => k_is)
    (case z_bool => k_is)
    (case z_int => k_is)
    (case z_isinstance => k_is)
    (case z_len => k_is)
    (case z_list => k_is)
    (case z_range => k_is)
    (case z_str => k_is)
    (case z_tuple => k_is)
    (case z_zip => k_is)
    (case z_FREE => k_is)
    (case z_GREAT => k_is)
    (case z_LETTERS => k_is)
    (case z_MARKS => k_is)
    (case z_MOST_CELLS => k_is)
    (case aC_Board => k_is)
    (case pg_Board => k_is)
    (case hd_Board => k_is)
    (case po_Board => k_is)
    (case sa_Board => k_is)
    (case n_Board_rows => k_is)
    (case n_Board_marks => k_is)
    (case n_Board_begin => k_is)
    (case mk_Board => k_is)
    (case kc_Board => k_is)
    (case a_are_rows => k_is)
    (case l_are_rows => k_is)
    (case c_are_rows => k_is)
    (case k_are_rows => k_is)
    (case a_is_whole => k_is)
    (case l_is_whole => k_is)
    (case c_is_whole => k_is)
    (case k_is_whole => k_is)
    (case a_is_cell => k_is)
    (case l_is_cell => k_is)
    (case c_is_cell => k_is)
    (case k_is_cell => k_is)
    (case a_is_sign => k_is)
    (case l_is_sign => k_is)
    (case c_is_sign => k_is)
    (case k_is_sign => k_is)
    (case a_Board___init__ => k_is)
    (case i_Board___init__ => k_is)
    (case l_Board___init__ => k_is)
    (case c_Board___init__ => k_is)
    (case k_Board___init__ => k_is)
    (case a__law_alike => k_is)
    (case l__law_alike => k_is)
    (case c__law_alike => k_is)
    (case k__law_alike => k_is)
    (case a__law_cell_at => k_is)
    (case l__law_cell_at => k_is)
    (case c__law_cell_at => k_is)
    (case k__law_cell_at => k_is)
    (case a__law_draw => k_is)
    (case l__law_draw => k_is)
    (case c__law_draw => k_is)
    (case k__law_draw => k_is)
    (case a__law_letters => k_is)
    (case l__law_letters => k_is)
    (case c__law_letters => k_is)
    (case k__law_letters => k_is)
    (case a__law_marks => k_is)
    (case l__law_marks => k_is)
    (case c__law_marks => k_is)
    (case k__law_marks => k_is)
    (case a__law_sign => k_is)
    (case l__law_sign => k_is)
    (case c__law_sign => k_is)
    (case k__law_sign => k_is)
    (case a__law_rows => k_is)
    (case l__law_rows => k_is)
    (case c__law_rows => k_is)
    (case k__law_rows => k_is)
    (case a__law_is_near => k_is)
    (case l__law_is_near => k_is)
    (case c__law_is_near => k_is)
    (case k__law_is_near => k_is)
    (case a__law_starts => k_is)
    (case l__law_starts => k_is)
    (case c__law_starts => k_is)
    (case k__law_starts => k_is)
    (case a__law_straight => k_is)
    (case l__law_straight => k_is)
    (case c__law_straight => k_is)
    (case k__law_straight => k_is)
    (case a__law_grid => k_is)
    (case l__law_grid => k_is)
    (case c__law_grid => k_is)
    (case k__law_grid => k_is)
    (case a__law_run => k_is)
    (case l__law_run => k_is)
    (case c__law_run => k_is)
    (case k__law_run => k_is)
    (case a__law_words => k_is)
    (case l__law_words => k_is)
    (case c__law_words => k_is)
    (case k__law_words => k_is)
    (case a_Board_laid => k_is)
    (case i_Board_laid => k_is)
    (case l_Board_laid => k_is)
    (case c_Board_laid => k_is)
    (case k_Board_laid => k_is)
    (case a_Board_at => k_is)
    (case i_Board_at => k_is)
    (case l_Board_at => k_is)
    (case c_Board_at => k_is)
    (case k_Board_at => k_is)
    (case a_Board_run => k_is)
    (case i_Board_run => k_is)
    (case l_Board_run => k_is)
    (case c_Board_run => k_is)
    (case k_Board_run => k_is)
    (case a_way_of => k_is)
    (case l_way_of => k_is)
    (case c_way_of => k_is)
    (case k_way_of => k_is)
    (case a_formed => k_is)
    (case l_formed => k_is)
    (case c_formed => k_is)
    (case k_formed => k_is)
    (case a_law => k_is)
    (case l_law => k_is)
    (case c_law => k_is)
    (case k_law => k_is)
