import PyProof.Rows.All
import Wide.All
import OpenK.AllK
import Wide.FinOn
import HandS.ForMost
import HandS.ForExc
import KE.KDictKeyed
import HandS.Lambda
import HandS.ExcCtx
import HandS.Hot
import HandS.TupAny
import HandS.TupMul
import HandS.Deep
import HandS.DeepEq
import HandS.IsInst
import HandS.Flow
import HandS.Wide
import HandS.Strs
import PyProof.StrOps2
import HandS.Style
import HandS.Text
import KE.DataCmp
import PyProof.P3In
import HandS.Codes
import HandS.TupLen
import HandS.WordsDict
import HandS.Conv
import HandS.More
import HandS.Iter
import KE.SortData
import HandS.ExcOwn
import HandS.ExcValue
import HandS.Dict
import HandS.SetFor
import HandS.Finally
import PyProof.StrLawsFirst
import HandS.Zip
import HandS.Replace
import HandS.SetKeys
import HandS.DictComp
import HandS.WordsExc
import HandS.TryOnly
import HandS.ExcInit
import KE.KDictPairs
import PyProof.Rows.TupDisplay
import KE.KExcIs
import HandS.ExcField
import HandS.CallSlots
import PyProof.ExcBaseAll.ValueError
import PyProof.Rows.CountFlat
import HandS.NoneIn
import KE.KDictCopyH
import HandS.SetTxt0
import HandS.TupSets
import PyProof.StrWalks
import PyProof.MeetsStr3
import PyProof.StrReplace2
import PyProof.StrLawsIn
import PyProof.StrBlock
import KE.GoesEnum
import KE.GoesMore
import KE.DataMinMax
import KE.KAssignIn
import PyProof.EqAt
import HandS.SortKw
import HandS.EndTab
import KE.SortKeyHeap
import KE.KNestM
import PyProof.ConsumeWalk
import PySem.Challenge.RW_letterrack_k11_what_is_left
set_option Elab.async false
set_option linter.all false
set_option maxRecDepth 100000
set_option maxHeartbeats 4000000
namespace Lr
open PySem L2
inductive D where
  | non | bl (b : Bool) | int (i : Int) | str (x : List Nat) | tup (ds : List D) | lst (ds : List D) | scr (ds : List D) | dic (kvs : List (D × D)) | dit (kvs : List (D × D)) | obj (c : Nat) (ds : List D) | ref (n : Nat) | tpz (ds : List D) | exc (c : Nat) (ds : List D) | din (kvs : List (D × D))
noncomputable abbrev Mu := List D
noncomputable abbrev Ev := List (Option D)
inductive Res (α : Type) where
  | ok (a : α) | ex (c : Nat) (ds : List D) (μ : Mu) | no
noncomputable def Res.bind {α β : Type} (r : Res α) (f : α → Res β) : Res β := match r with
  | .ok a => f a
  | .ex c ds μ => .ex c ds μ
  | .no => .no
noncomputable abbrev M := Ev → Mu → Res (D × Mu)
inductive Out where
  | nx (e : Ev) (μ : Mu) | rt (d : D) (μ : Mu) | bk (e : Ev) (μ : Mu) | ct (e : Ev) (μ : Mu)
noncomputable def S (x : List Nat) : Str := ⟨x.toArray⟩
theorem S_cps (x : List Nat) : (S x).cps.toList = x := by simp [S]
theorem S_len (x : List Nat) : (S x).length = x.length := by simp [S, Str.length]
theorem S_inj {x y : List Nat} (h : S x = S y) : x = y := by
  have := congrArg (fun s : Str => s.cps.toList) h
  simpa [S] using this
theorem S_of (s : Str) : S s.cps.toList = s := by cases s; simp [S]
noncomputable def lineN : Nat := 16777216
noncomputable def okS (x : List Nat) : Bool := decide (x.length ≤ lineN) && x.all fun c => decide (c < 1114112)
noncomputable def keyOf : D → Option Key
  | .int i => some (.inl i)
  | .str x => some (.inr (S x))
  | _ => none
noncomputable def keysOfL : List D → Option (List Key)
  | [] => some []
  | d :: ds => match keyOf d, keysOfL ds with
    | some k, some ks => some (k :: ks)
    | _, _ => none
noncomputable def keyT : D → Option (List Key)
  | .tup ds => keysOfL ds
  | _ => none
structure Nm where
  cn : Nat → Str
  cf : Nat → List Str
  tb : List (Addr × Str)
structure Ct where
  K : PySem.W.Frag
  mg : Str → Option Value
  nm : Nm
  w : World
noncomputable def Tz (G : Hp) (a : Addr) (vs : List V) : Prop := ∃ o : Obj, G a = some (.frz o (.tup vs)) ∧ o.dict = none
noncomputable def ExV (a C : Addr) (dx : Option Addr) : HO := .ext fun h => ∃ (oe : Obj) (fs : Array Value), h.get? a = some oe ∧ L2N.Zn (.ref C) dx oe ∧ oe.data = .fields fs
mutual
noncomputable def nkOf : D → Option PySem.NestedKey
  | .int i => some (.num i)
  | .str x => some (.text (S x))
  | .non => some .none
  | .tup ds => (nksOf ds).map .tup
  | .bl _ => none | .lst _ => none | .scr _ => none | .dic _ => none | .dit _ => none | .obj _ _ => none | .ref _ => none | .tpz _ => none | .exc _ _ => none | .din _ => none
noncomputable def nksOf : List D → Option (List PySem.NestedKey)
  | [] => some []
  | d :: ds => match nkOf d, nksOf ds with
    | some k, some ks => some (k :: ks)
    | _, _ => none
end
noncomputable abbrev NE := PySem.NestedKey × Addr × V
noncomputable def DnO (w : World) (a : Addr) (xs : List NE) : HO := .ext fun h => ∃ (vs : List (PySem.NestedKey × Addr × Value)) (o : Obj) (es : Array DictEntry) (ep : Nat),
  Paired (fun (x : NE) (y : PySem.NestedKey × Addr × Value) => x.1 = y.1 ∧ x.2.1 = y.2.1 ∧ RelV x.2.2 y.2.2) xs vs ∧
  (a == sysModules) = false ∧ xs.length ≤ sizeLine ∧ h.get? a = some o ∧ o.ExactDict ∧ o.data = .dict es ep ∧ es.toList = vs.map (fun y => ⟨y.1.hash w, .ref y.2.1, y.2.2⟩)
section
variable (t : Ct) (G : Hp) (ρ : List Addr)
mutual
noncomputable def rep : D → V → Prop
  | .non, v => v = .non
  | .bl b, v => v = .bl b
  | .int i, v => v = .int i
  | .str x, v => v = .str (S x) ∧ okS x = true
  | .tup ds, v => ∃ a vs, v = .ref a ∧ G a = some (.tup vs) ∧ reps ds vs
  | .lst ds, v => ∃ a vs, v = .ref a ∧ G a = some (.lst vs) ∧ reps ds vs
  | .scr ds, v => ∃ a vs, v = .ref a ∧ SqL t.K G a vs ∧ reps ds vs
  | .dic kvs, v => ∃ a ks, v = .ref a ∧ Rd G a (.dK ks) ∧ repk kvs ks
  | .dit kvs, v => ∃ a ks, v = .ref a ∧ G a = some (.dT ks) ∧ repkT kvs ks
  | .obj c ds, v => ∃ a C dx vs, v = .ref a ∧ t.mg (t.nm.cn c) = some (.ref C) ∧ G a = some (.ins C dx ((t.nm.cf c).zip vs)) ∧ vs.length ≤ (t.nm.cf c).length ∧ reps ds vs
  | .ref n, v => ∃ a, ρ[n]? = some a ∧ v = .ref a
  | .tpz ds, v => ∃ a vs, v = .ref a ∧ Tz G a vs ∧ reps ds vs
  | .din _, _ => False
  | .exc c ds, v => ∃ a C dx, v = .ref a ∧ t.mg (t.nm.cn c) = some (.ref C) ∧ G a = some (ExV a C dx) ∧ ((ds = [] ∧ dx = none) ∨ ∃ d vs, dx = some d ∧ G d = some (.xd ((t.nm.cf c).zip vs)) ∧ vs.length ≤ (t.nm.cf c).length ∧ reps ds vs)
noncomputable def reps : List D → List V → Prop
  | [], vs => vs = []
  | d :: ds, vs => ∃ v r, vs = v :: r ∧ rep d v ∧ reps ds r
noncomputable def repk : List (D × D) → List (Key × V) → Prop
  | [], ks => ks = []
  | (k, d) :: r, ks => ∃ k' v r', ks = (k', v) :: r' ∧ keyOf k = some k' ∧ rep d v ∧ repk r r'
noncomputable def repkT : List (D × D) → List (List Key × V) → Prop
  | [], ks => ks = []
  | (k, d) :: r, ks => ∃ k' v r', ks = (k', v) :: r' ∧ keyT k = some k' ∧ rep d v ∧ repkT r r'
end
end
noncomputable def Pre (ρ ρ' : List Addr) : Prop := ∃ r, ρ' = ρ ++ r
theorem Pre.refl (ρ : List Addr) : Pre ρ ρ := ⟨[], by simp⟩
theorem Pre.trans {a b c : List Addr} : Pre a b → Pre b c → Pre a c := fun ⟨r, h⟩ ⟨q, k⟩ => ⟨r ++ q, by rw [k, h, List.append_assoc]⟩
theorem Pre.get {ρ ρ' : List Addr} (h : Pre ρ ρ') {n : Nat} {a : Addr} (e : ρ[n]? = some a) : ρ'[n]? = some a := by
  obtain ⟨r, rfl⟩ := h
  have := (List.getElem?_eq_some_iff.mp e).1
  rw [List.getElem?_append_left this]; exact e
theorem Pre.mem {ρ ρ' : List Addr} (h : Pre ρ ρ') {a : Addr} (e : a ∈ ρ) : a ∈ ρ' := by
  obtain ⟨r, rfl⟩ := h
  exact List.mem_append_left _ e
theorem Same.rd {H H' : Hp} {a : Addr} {u : HO} (e : Same H H') (h : Rd H a u) : Rd H' a u := by
  rcases h with h | ⟨o, h⟩
  · exact .inl (e _ _ h)
  · exact .inr ⟨o, e _ _ h⟩
theorem Same.tz {H H' : Hp} {a : Addr} {vs : List V} (e : Same H H') (h : Tz H a vs) : Tz H' a vs := h.imp fun _ q => ⟨e _ _ q.1, q.2⟩
theorem Same.seqT {K : PySem.W.Frag} {H H' : Hp} {a : Addr} {xs : List V} (e : Same H H') (h : SqT K H a xs) : SqT K H' a xs := by
  rcases h with (h | ⟨o, h⟩) | h
  · exact .inl (.inl (e _ _ h))
  · exact .inl (.inr ⟨o, e _ _ h⟩)
  · exact .inr h
section
variable {t : Ct} {G G' : Hp} {ρ ρ' : List Addr} (hG : Same G G') (hρ : Pre ρ ρ')
include hG hρ
mutual
theorem rep.mono : ∀ (d : D) (v : V), rep t G ρ d v → rep t G' ρ' d v
  | .non, _, h => h
  | .bl _, _, h => h
  | .int _, _, h => h
  | .str _, _, h => h
  | .tup ds, _, ⟨a, vs, e, q, r⟩ => ⟨a, vs, e, hG _ _ q, reps.mono ds vs r⟩
  | .lst ds, _, ⟨a, vs, e, q, r⟩ => ⟨a, vs, e, hG _ _ q, reps.mono ds vs r⟩
  | .scr ds, _, ⟨a, vs, e, q, r⟩ => ⟨a, vs, e, Same.seq hG q, reps.mono ds vs r⟩
  | .dic kvs, _, ⟨a, ks, e, q, r⟩ => ⟨a, ks, e, Same.rd hG q, repk.mono kvs ks r⟩
  | .dit kvs, _, ⟨a, ks, e, q, r⟩ => ⟨a, ks, e, hG _ _ q, repkT.mono kvs ks r⟩
  | .obj c ds, _, ⟨a, C, dx, vs, e, hm, q, l, r⟩ => ⟨a, C, dx, vs, e, hm, hG _ _ q, l, reps.mono ds vs r⟩
  | .ref n, _, ⟨a, e, q⟩ => ⟨a, hρ.get e, q⟩
  | .tpz ds, _, ⟨a, vs, e, q, r⟩ => ⟨a, vs, e, Same.tz hG q, reps.mono ds vs r⟩
  | .din _, _, h => h
  | .exc c ds, _, ⟨a, C, dx, e, m, q, r⟩ => ⟨a, C, dx, e, m, hG _ _ q, r.imp id fun ⟨d, vs, e1, e2, l, r⟩ => ⟨d, vs, e1, hG _ _ e2, l, reps.mono ds vs r⟩⟩
theorem reps.mono : ∀ (ds : List D) (vs : List V), reps t G ρ ds vs → reps t G' ρ' ds vs
  | [], _, h => h
  | d :: ds, _, ⟨v, r, e, h1, h2⟩ => ⟨v, r, e, rep.mono d v h1, reps.mono ds r h2⟩
theorem repk.mono : ∀ (ds : List (D × D)) (vs : List (Key × V)), repk t G ρ ds vs → repk t G' ρ' ds vs
  | [], _, h => h
  | (k, d) :: ds, _, ⟨k', v, r, e, hk, h1, h2⟩ => ⟨k', v, r, e, hk, rep.mono d v h1, repk.mono ds r h2⟩
theorem repkT.mono : ∀ (ds : List (D × D)) (vs : List (List Key × V)), repkT t G ρ ds vs → repkT t G' ρ' ds vs
  | [], _, h => h
  | (k, d) :: ds, _, ⟨k', v, r, e, hk, h1, h2⟩ => ⟨k', v, r, e, hk, rep.mono d v h1, repkT.mono ds r h2⟩
end
end
section
variable {t : Ct} {G : Hp} {ρ : List Addr}
theorem reps.length : ∀ {ds : List D} {vs : List V}, reps t G ρ ds vs → vs.length = ds.length
  | [], _, h => by cases h; rfl
  | d :: ds, _, ⟨v, r, e, _, h2⟩ => by subst e; simp [reps.length h2]
theorem reps.get : ∀ {ds : List D} {vs : List V} {i : Nat} {d : D}, reps t G ρ ds vs → ds[i]? = some d → ∃ v, vs[i]? = some v ∧ rep t G ρ d v
  | [], _, i, d, _, e => by simp at e
  | d0 :: ds, _, 0, d, ⟨v, r, e, h1, h2⟩, q => by subst e; simp at q; subst q; exact ⟨v, rfl, h1⟩
  | d0 :: ds, _, i + 1, d, ⟨v, r, e, h1, h2⟩, q => by
    subst e
    obtain ⟨w, a, b⟩ := reps.get (i := i) (d := d) h2 (by simpa using q)
    exact ⟨w, by simpa using a, b⟩
theorem reps.app : ∀ {ds es : List D} {vs ws : List V}, reps t G ρ ds vs → reps t G ρ es ws → reps t G ρ (ds ++ es) (vs ++ ws)
  | [], _, _, _, h, k => by cases h; exact k
  | d :: ds, es, _, ws, ⟨v, r, e, h1, h2⟩, k => by subst e; exact ⟨v, r ++ ws, rfl, h1, reps.app h2 k⟩
theorem reps.take : ∀ {ds : List D} {vs : List V} (n : Nat), reps t G ρ ds vs → reps t G ρ (ds.take n) (vs.take n)
  | _, _, 0, _ => by simp [reps]
  | [], _, n + 1, h => by cases h; simp [reps]
  | d :: ds, _, n + 1, ⟨v, r, e, h1, h2⟩ => by subst e; exact ⟨v, r.take n, rfl, h1, reps.take n h2⟩
theorem reps.drop : ∀ {ds : List D} {vs : List V} (n : Nat), reps t G ρ ds vs → reps t G ρ (ds.drop n) (vs.drop n)
  | _, _, 0, h => h
  | [], _, n + 1, h => by cases h; simp [reps]
  | d :: ds, _, n + 1, ⟨v, r, e, h1, h2⟩ => by subst e; exact reps.drop n h2
theorem reps.set {d : D} {v : V} (hd : rep t G ρ d v) : ∀ {ds : List D} {vs : List V} (i : Nat), reps t G ρ ds vs → reps t G ρ (ds.set i d) (vs.set i v)
  | [], _, _, h => by cases h; simp [reps]
  | d0 :: ds, _, 0, ⟨w, r, e, h1, h2⟩ => by subst e; exact ⟨v, r, rfl, hd, h2⟩
  | d0 :: ds, _, i + 1, ⟨w, r, e, h1, h2⟩ => by subst e; exact ⟨w, r.set i v, rfl, h1, reps.set hd i h2⟩
theorem reps.one {d : D} {v : V} (h : rep t G ρ d v) : reps t G ρ [d] [v] := ⟨v, [], rfl, h, rfl⟩
theorem reps.rev : ∀ {ds : List D} {vs : List V}, reps t G ρ ds vs → reps t G ρ ds.reverse vs.reverse
  | [], _, h => by cases h; simp [reps]
  | d :: ds, _, ⟨v, r, e, h1, h2⟩ => by
    subst e
    rw [List.reverse_cons, List.reverse_cons]
    exact reps.app (reps.rev h2) (reps.one h1)
end
noncomputable def repn (t : Ct) (G : Hp) (ρ : List Addr) : List (D × D) → List NE → Prop
  | [], xs => xs = []
  | (k, d) :: r, xs => ∃ nk b v xs', xs = (nk, b, v) :: xs' ∧ nkOf k = some nk ∧ nk.depth ≤ 8 ∧ rep t G ρ k (.ref b) ∧ rep t G ρ d v ∧ repn t G ρ r xs'
theorem repn.mono {t : Ct} {G G' : Hp} {ρ ρ' : List Addr} (hG : Same G G') (hρ : Pre ρ ρ') : ∀ (ds : List (D × D)) (xs : List NE), repn t G ρ ds xs → repn t G' ρ' ds xs
  | [], _, h => h
  | (k, d) :: ds, _, ⟨nk, b, v, r, e, hk, hd, h0, h1, h2⟩ => ⟨nk, b, v, r, e, hk, hd, rep.mono hG hρ k _ h0, rep.mono hG hρ d v h1, repn.mono hG hρ ds r h2⟩
noncomputable def cell (t : Ct) (G : Hp) (ρ : List Addr) (H : Hp) (a : Addr) : D → Prop
  | .lst ds => ∃ vs, H a = some (.lst vs) ∧ reps t G ρ ds vs
  | .dic kvs => ∃ ks, H a = some (.dK ks) ∧ repk t G ρ kvs ks
  | .dit kvs => ∃ ks, H a = some (.dT ks) ∧ repkT t G ρ kvs ks
  | .obj c ds => ∃ C dx vs, t.mg (t.nm.cn c) = some (.ref C) ∧ H a = some (.ins C dx ((t.nm.cf c).zip vs)) ∧ vs.length ≤ (t.nm.cf c).length ∧ reps t G ρ ds vs
  | .din kvs => ∃ xs, H a = some (DnO t.w a xs) ∧ (xs.map (·.1)).Nodup ∧ (a == sysModules) = false ∧ xs.length ≤ sizeLine ∧ repn t G ρ kvs xs
  | _ => False
theorem cell.mono {t : Ct} {G G' H H' : Hp} {ρ ρ' : List Addr} {a : Addr} (hG : Same G G') (hρ : Pre ρ ρ') (hH : ∀ o, H a = some o → H' a = some o) : ∀ {d : D}, cell t G ρ H a d → cell t G' ρ' H' a d
  | .lst ds, ⟨vs, e, r⟩ => ⟨vs, hH _ e, reps.mono hG hρ _ _ r⟩
  | .dic kvs, ⟨ks, e, r⟩ => ⟨ks, hH _ e, repk.mono hG hρ _ _ r⟩
  | .dit kvs, ⟨ks, e, r⟩ => ⟨ks, hH _ e, repkT.mono hG hρ _ _ r⟩
  | .obj c ds, ⟨C, dx, vs, m, e, l, r⟩ => ⟨C, dx, vs, m, hH _ e, l, reps.mono hG hρ _ _ r⟩
  | .din kvs, ⟨xs, e, n, z1, z2, r⟩ => ⟨xs, hH _ e, n, z1, z2, repn.mono hG hρ _ _ r⟩
theorem cell.some {t : Ct} {G H : Hp} {ρ : List Addr} {a : Addr} : ∀ {d : D}, cell t G ρ H a d → ∃ o, H a = some o ∧ (∀ xs, o ≠ .tup xs) ∧ ∀ ob u, o ≠ .frz ob u
  | .lst ds, ⟨vs, e, r⟩ => ⟨_, e, (fun _ h => by cases h), (fun _ _ h => by cases h)⟩
  | .dic kvs, ⟨ks, e, r⟩ => ⟨_, e, (fun _ h => by cases h), (fun _ _ h => by cases h)⟩
  | .dit kvs, ⟨ks, e, r⟩ => ⟨_, e, (fun _ h => by cases h), (fun _ _ h => by cases h)⟩
  | .obj c ds, ⟨C, dx, vs, m, e, l, r⟩ => ⟨_, e, (fun _ h => by cases h), (fun _ _ h => by cases h)⟩
  | .din kvs, ⟨xs, e, n, _, _, r⟩ => ⟨_, e, (fun _ h => by cases h), (fun _ _ h => by cases h)⟩
noncomputable def lamQ : Str := "ranked.<locals>.<lambda>"
noncomputable def TabG (G H : Hp) (P : Addr) (q : Str) : Prop := G P = none ∧ ∃ ps : Array Value, H P = some (.tbl ps) ∧ TriplesOk ps.toList ∧ ∀ (pos : Pos) (cv : Value), codeAmong pos ps.toList = some cv → ∃ c, cv = .ref c ∧ G c = some (LamX.CodeO c lamQ)
noncomputable def TbS (H H' : Hp) : Prop := ∀ b ps, H b = some (.tbl ps) → H' b = some (.tbl ps)
theorem TbS.refl (H : Hp) : TbS H H := fun _ _ h => h
theorem TbS.of {H H' : Hp} (h : Same H H') : TbS H H' := fun b _ e => h b _ e
noncomputable def NbS (H G G' : Hp) : Prop := ∀ b ps, H b = some (.tbl ps) → G b = none → G' b = none
theorem NbS.refl (H G : Hp) : NbS H G G := fun _ _ _ h => h
theorem NbS.upd {H G : Hp} {a : Addr} {o : HO} (h : ∀ ps, H a ≠ some (.tbl ps)) : NbS H G (L2.upd G a o) := fun b ps e g => by
  rw [upd_ne (fun z => h ps (by rw [← z]; exact e))]; exact g
theorem TabG.mono {G G' H H' : Hp} {P : Addr} {q : Str} (sG : Same G G') (sH : TbS H H') (nG : NbS H G G') (h : TabG G H P q) : TabG G' H' P q := by
  obtain ⟨n, ps, e, o, k⟩ := h
  exact ⟨nG _ _ e n, ps, sH _ _ e, o, fun pos cv z => (k pos cv z).imp fun c y => ⟨y.1, sG _ _ y.2⟩⟩
theorem cell.nt {t : Ct} {G H : Hp} {ρ : List Addr} {a : Addr} {ps : Array Value} (e : H a = Option.some (HO.tbl ps)) : ∀ {d : D}, cell t G ρ H a d → False
  | .lst ds, ⟨vs, z, r⟩ => nomatch e.symm.trans z
  | .dic kvs, ⟨ks, z, r⟩ => nomatch e.symm.trans z
  | .dit kvs, ⟨ks, z, r⟩ => nomatch e.symm.trans z
  | .obj c ds, ⟨C, dx, vs, m, z, l, r⟩ => nomatch e.symm.trans z
  | .din kvs, ⟨xs, z, n, _, _, r⟩ => nomatch e.symm.trans z
noncomputable def hotQ : Str := "!hot"
noncomputable def TabH (G H : Hp) (P : Addr) (q : Str) : Prop := (q = hotQ ∧ ∃ C dx, G P = some (ExV P C dx)) ∨ (q ≠ hotQ ∧ TabG G H P q)
theorem TabH.up {G G' H H' : Hp} (sG : Same G G') (f : ∀ P q, TabG G H P q → TabG G' H' P q) {P : Addr} {q : Str} (h : TabH G H P q) : TabH G' H' P q := by
  rcases h with ⟨e, C, dx, h⟩ | ⟨e, h⟩
  · exact .inl ⟨e, C, dx, sG _ _ h⟩
  · exact .inr ⟨e, f P q h⟩
structure Rel (t : Ct) (G : Hp) (ρ : List Addr) (env : Ev) (μ : Mu) (σ : St) (H : Hp) : Prop where
  sub : Same G H
  nd : ρ.Nodup
  gn : ∀ a ∈ ρ, G a = none
  len : ρ.length = μ.length
  cells : ∀ (n : Nat) a d, ρ[n]? = some a → μ[n]? = some d → cell t G ρ H a d
  slen : σ.length = env.length
  slots : ∀ (i : Nat) d, env[i]? = some (some d) → ∃ v, σ[i]? = some (some v) ∧ rep t G ρ d v
  tab : ∀ p ∈ t.nm.tb, TabH G H p.1 p.2
theorem TabG.two {G H : Hp} {P a : Addr} {q : Str} {u u' : HO} (h : TabG G H P q) (n1 : ∀ ps, H a ≠ some (.tbl ps)) (n2 : ∀ c q, G a ≠ some (LamX.CodeO c q)) : TabG (upd G a u) (upd H a u') P q := by
  obtain ⟨n, ps, e, o, k⟩ := h
  refine ⟨by rw [upd_ne (fun z => n1 ps (by rw [← z]; exact e))]; exact n, ps, by rw [upd_ne (fun z => n1 ps (by rw [← z]; exact e))]; exact e, o, fun pos cv hc => ?_⟩
  obtain ⟨c, e1, e2⟩ := k pos cv hc
  exact ⟨c, e1, by rw [upd_ne (fun z => n2 c lamQ (by rw [← z]; exact e2))]; exact e2⟩
theorem TabH.two {G H : Hp} {P a : Addr} {q : Str} {u u' : HO} (h : TabH G H P q) (n1 : ∀ ps, H a ≠ some (.tbl ps)) (n2 : ∀ c q, G a ≠ some (LamX.CodeO c q)) (n3 : ∀ C dx, G a ≠ some (ExV a C dx)) : TabH (upd G a u) (upd H a u') P q := by
  rcases h with ⟨e, C, dx, h⟩ | ⟨e, h⟩
  · refine .inl ⟨e, C, dx, ?_⟩
    by_cases z : P = a
    · subst z; exact absurd h (n3 C dx)
    · rw [upd_ne z]; exact h
  · exact .inr ⟨e, h.two n1 n2⟩
structure Ext (G : Hp) (ρ : List Addr) (H : Hp) (G' : Hp) (ρ' : List Addr) (H' : Hp) : Prop where
  sub : Same G G'
  pre : Pre ρ ρ'
  frame : ∀ a o, H a = some o → a ∉ ρ → (∀ ps, o ≠ .tbl ps) → H' a = some o
  fresh : ∀ a ∈ ρ', a ∈ ρ ∨ H a = none
  there : ∀ a, H a ≠ none → H' a ≠ none
  gf : ∀ a o, G' a = some o → G a = some o ∨ H a = none ∨ (a ∉ ρ ∧ H a = some o ∧ ∃ vs, o = .tup vs)
  tab : ∀ P q, TabG G H P q → TabG G' H' P q
  tbk : ∀ a ps, H a = some (.tbl ps) → ∃ ps', H' a = some (.tbl ps')
theorem Ext.refl {G H : Hp} {ρ : List Addr} : Ext G ρ H G ρ H := ⟨Same.refl _, Pre.refl _, fun _ _ h _ _ => h, fun _ h => .inl h, fun _ h => h, fun _ _ h => .inl h, fun _ _ h => h, fun _ ps h => ⟨ps, h⟩⟩
theorem Ext.trans {G G1 G2 H H1 H2 : Hp} {ρ ρ1 ρ2 : List Addr} (a : Ext G ρ H G1 ρ1 H1) (b : Ext G1 ρ1 H1 G2 ρ2 H2) : Ext G ρ H G2 ρ2 H2 where
  sub := a.sub.trans b.sub
  pre := a.pre.trans b.pre
  frame := fun c o h n nt => b.frame c o (a.frame c o h n nt) (fun q => by
    rcases a.fresh c q with z | z
    · exact n z
    · rw [h] at z; cases z) nt
  tab := fun P q h => b.tab P q (a.tab P q h)
  tbk := fun c ps h => let ⟨ps', e⟩ := a.tbk c ps h; b.tbk c ps' e
  fresh := fun c q => by
    rcases b.fresh c q with z | z
    · exact a.fresh c z
    · by_cases e : H c = none
      · exact .inr e
      · exact absurd z (a.there c e)
  there := fun c h => b.there c (a.there c h)
  gf := fun c o q => by
    rcases b.gf c o q with z | z | ⟨z1, z2, z3⟩
    · exact a.gf c o z
    · by_cases e : H c = none
      · exact .inr (.inl e)
      · exact absurd z (a.there c e)
    · have n : c ∉ ρ := fun y => z1 (a.pre.mem y)
      cases e : H c with
      | none => exact .inr (.inl rfl)
      | some o' =>
        by_cases nt : ∀ ps, o' ≠ .tbl ps
        · have y := a.frame c o' e n nt
          rw [z2] at y
          cases y
          exact .inr (.inr ⟨n, rfl, z3⟩)
        · obtain ⟨ps, hp⟩ := Classical.not_forall.mp nt
          obtain rfl := Classical.not_not.mp hp
          obtain ⟨ps', y⟩ := a.tbk c ps e
          obtain ⟨vs, rfl⟩ := z3
          rw [z2] at y
          cases y
theorem TbS.k {H H' : Hp} (h : TbS H H') : ∀ a ps, H a = some (.tbl ps) → ∃ ps', H' a = some (.tbl ps') := fun a ps e => ⟨ps, h a ps e⟩
theorem tabs_of {t : Ct} {G G' H H' : Hp} (h : ∀ p ∈ t.nm.tb, TabH G H p.1 p.2) (sG : Same G G') (sH : TbS H H') (nG : NbS H G G') : ∀ p ∈ t.nm.tb, TabH G' H' p.1 p.2 := fun p hp => (h p hp).up sG fun _ _ z => z.mono sG sH nG
theorem tab_of {G G' H H' : Hp} (sG : Same G G') (sH : TbS H H') (nG : NbS H G G') : ∀ P q, TabG G H P q → TabG G' H' P q := fun _ _ h => h.mono sG sH nG
theorem TbS.upd {H : Hp} {a : Addr} {o : HO} (h : ∀ ps, H a ≠ some (.tbl ps)) : TbS H (upd H a o) := fun b ps e => by
  rw [upd_ne (fun z => h ps (by rw [← z]; exact e))]; exact e
theorem TbS.new {H : Hp} {a : Addr} {o : HO} (h : H a = none) : TbS H (L2.upd H a o) := fun b ps e => by
  show L2.upd H a o b = _
  rw [upd_ne (ne_of_none e h)]; exact e
theorem Ext.rep {t : Ct} {G G' H H' : Hp} {ρ ρ' : List Addr} (e : Ext G ρ H G' ρ' H') {d : D} {v : V} (h : rep t G ρ d v) : Lr.rep t G' ρ' d v := rep.mono e.sub e.pre d v h
theorem Ext.reps {t : Ct} {G G' H H' : Hp} {ρ ρ' : List Addr} (e : Ext G ρ H G' ρ' H') {d : List D} {v : List V} (h : reps t G ρ d v) : Lr.reps t G' ρ' d v := reps.mono e.sub e.pre d v h
section
variable {t : Ct} {G H : Hp} {ρ : List Addr} {env : Ev} {μ : Mu} {σ : St}
theorem Rel.laidG (R : Rel t G ρ env μ σ H) {p : Addr} (o : HO) (hp : H p = none) : Rel t (upd G p o) ρ env μ σ (upd H p o) ∧ Ext G ρ H (upd G p o) ρ (upd H p o) := by
  have gp : G p = none := Same.free R.sub hp
  have sG : Same G (upd G p o) := fun b u e => by rw [upd_ne (ne_of_none e gp)]; exact e
  have sH : Same H (upd H p o) := fun b u e => by rw [upd_ne (ne_of_none e hp)]; exact e
  have hpρ : ∀ a ∈ ρ, a ≠ p := fun a ha z => by
    subst z
    obtain ⟨n, hn, e⟩ := List.getElem_of_mem ha
    obtain ⟨ob, q, _⟩ := (R.cells n a (μ[n]'(by rw [← R.len]; exact hn)) (by rw [List.getElem?_eq_getElem hn, e]) (by simp)).some
    rw [hp] at q; cases q
  refine ⟨⟨fun b u e => ?_, R.nd, fun a ha => ?_, R.len, fun n a d e1 e2 => (R.cells n a d e1 e2).mono sG (Pre.refl _) (sH a), R.slen, fun i d e => ?_, tabs_of R.tab sG (.of sH) (.upd fun ps z => nomatch hp.symm.trans z)⟩, ⟨sG, Pre.refl _, fun a u e _ _ => sH a u e, fun _ h => .inl h, fun a h => ?_, fun a u e => ?_, tab_of sG (.of sH) (.upd fun ps z => nomatch hp.symm.trans z), TbS.k (.of sH)⟩⟩
  · by_cases hb : b = p
    · subst hb; rw [upd_same] at e ⊢; exact e
    · rw [upd_ne hb] at e ⊢; exact R.sub b u e
  · rw [upd_ne (hpρ a ha)]; exact R.gn a ha
  · obtain ⟨v, h1, h2⟩ := R.slots i d e
    exact ⟨v, h1, rep.mono sG (Pre.refl _) _ _ h2⟩
  · by_cases hb : a = p
    · subst hb; rw [upd_same]; simp
    · rw [upd_ne hb]; exact h
  · by_cases hb : a = p
    · subst hb; exact .inr (.inl hp)
    · rw [upd_ne hb] at e; exact .inl e
theorem Rel.ofCell (R : Rel t G ρ env μ σ H) {n : Nat} {d : D} (h : μ[n]? = some d) : ∃ a, ρ[n]? = some a ∧ cell t G ρ H a d := by
  have hn : n < μ.length := (List.getElem?_eq_some_iff.mp h).1
  have hn' : n < ρ.length := by rw [R.len]; exact hn
  exact ⟨ρ[n], by simp, R.cells n _ d (by simp) h⟩
theorem Rel.ρH (R : Rel t G ρ env μ σ H) {a : Addr} (ha : a ∈ ρ) : H a ≠ none := by
  obtain ⟨n, hn, e⟩ := List.getElem_of_mem ha
  obtain ⟨ob, q, _⟩ := (R.cells n a (μ[n]'(by rw [← R.len]; exact hn)) (by rw [List.getElem?_eq_getElem hn, e]) (by simp)).some
  rw [q]; simp
theorem Rel.ρT (R : Rel t G ρ env μ σ H) {a : Addr} (ha : a ∈ ρ) {vs : List V} : H a ≠ some (.tup vs) := fun z => by
  obtain ⟨n, hn, e⟩ := List.getElem_of_mem ha
  obtain ⟨ob, q, q2, _⟩ := (R.cells n a (μ[n]'(by rw [← R.len]; exact hn)) (by rw [List.getElem?_eq_getElem hn, e]) (by simp)).some
  rw [z] at q; cases q
  exact q2 _ rfl
theorem Rel.ρB (R : Rel t G ρ env μ σ H) {a : Addr} (ha : a ∈ ρ) {ps : Array Value} : H a ≠ some (.tbl ps) := fun z => by
  obtain ⟨n, hn, e⟩ := List.getElem_of_mem ha
  exact cell.nt z (R.cells n a (μ[n]'(by rw [← R.len]; exact hn)) (by rw [List.getElem?_eq_getElem hn, e]) (by simp))
theorem Rel.nt (R : Rel t G ρ env μ σ H) {a : Addr} (ha : a ∈ ρ) {o : HO} (q : H a = some o) : ∀ ps, o ≠ .tbl ps := fun ps z => R.ρB ha (by rw [q, z])
theorem Rel.nb (R : Rel t G ρ env μ σ H) : NbS H G (fun b => if b ∈ ρ then H b else G b) := fun b ps e g => by
  show (if b ∈ ρ then H b else G b) = none
  rw [if_neg (fun z => R.ρB z e)]; exact g
theorem Rel.newCell (R : Rel t G ρ env μ σ H) {p : Addr} {o : HO} {d : D} (hp : H p = none) (hc : cell t G (ρ ++ [p]) (upd H p o) p d) :
    Rel t G (ρ ++ [p]) env (μ ++ [d]) σ (upd H p o) ∧ Ext G ρ H G (ρ ++ [p]) (upd H p o) ∧ (ρ ++ [p])[μ.length]? = some p := by
  have gp : G p = none := Same.free R.sub hp
  have sH : Same H (upd H p o) := fun b u e => by rw [upd_ne (ne_of_none e hp)]; exact e
  have pr : Pre ρ (ρ ++ [p]) := ⟨[p], rfl⟩
  have hpρ : p ∉ ρ := fun z => R.ρH z hp
  refine ⟨⟨R.sub.trans sH, ?_, fun a ha => ?_, by simp [R.len], fun n a d' e1 e2 => ?_, R.slen, fun i d e => ?_, tabs_of R.tab (.refl _) (.of sH) (.refl _ _)⟩, ⟨Same.refl _, pr, fun a u e _ _ => sH a u e, fun a h => ?_, fun a h => ?_, fun _ _ h => .inl h, tab_of (.refl _) (.of sH) (.refl _ _), TbS.k (.of sH)⟩, ?_⟩
  · rw [List.nodup_append]
    exact ⟨R.nd, by simp, fun a ha b hb z => by simp at hb; subst hb; subst z; exact hpρ ha⟩
  · rcases List.mem_append.mp ha with h | h
    · exact R.gn a h
    · simp at h; subst h; exact gp
  · by_cases hn : n < μ.length
    · rw [List.getElem?_append_left (by rw [R.len]; exact hn)] at e1
      rw [List.getElem?_append_left hn] at e2
      exact (R.cells n a d' e1 e2).mono (Same.refl _) pr (sH a)
    · have : n = μ.length := by
        have := (List.getElem?_eq_some_iff.mp e2).1
        simp at this; omega
      subst this
      rw [← R.len] at e1
      simp at e1 e2
      subst e1 e2
      exact hc
  · obtain ⟨v, h1, h2⟩ := R.slots i d e
    exact ⟨v, h1, rep.mono (Same.refl _) pr _ _ h2⟩
  · rcases List.mem_append.mp h with h | h
    · exact .inl h
    · simp at h; subst h; exact .inr hp
  · by_cases hb : a = p
    · subst hb; rw [upd_same]; simp
    · rw [upd_ne hb]; exact h
  · rw [← R.len]; simp
theorem Rel.setCell (R : Rel t G ρ env μ σ H) {n : Nat} {a : Addr} {o : HO} {d : D} (hn : ρ[n]? = some a) (hc : cell t G ρ (upd H a o) a d) :
    Rel t G ρ env (μ.set n d) σ (upd H a o) ∧ Ext G ρ H G ρ (upd H a o) := by
  have ha : a ∈ ρ := List.mem_of_getElem? hn
  have ga : G a = none := R.gn a ha
  have sT : TbS H (upd H a o) := .upd fun ps => R.ρB ha
  refine ⟨⟨fun b u e => ?_, R.nd, R.gn, by simp [R.len], fun m b d' e1 e2 => ?_, R.slen, R.slots, tabs_of R.tab (.refl _) sT (.refl _ _)⟩, ⟨Same.refl _, Pre.refl _, fun b u e hb _ => ?_, fun _ h => .inl h, fun b h => ?_, fun _ _ h => .inl h, tab_of (.refl _) sT (.refl _ _), sT.k⟩⟩
  · rw [upd_ne (ne_of_none e ga)]; exact R.sub b u e
  · by_cases hm : m = n
    · subst hm
      rw [hn] at e1; cases e1
      have : m < μ.length := by rw [← R.len]; exact (List.getElem?_eq_some_iff.mp hn).1
      rw [List.getElem?_set_self this] at e2; cases e2
      exact hc
    · rw [List.getElem?_set_ne (Ne.symm hm)] at e2
      have nb : b ≠ a := fun z => by
        subst z
        exact hm (nodup_ixA R.nd e1 hn)
      exact (R.cells m b d' e1 e2).mono (Same.refl _) (Pre.refl _) fun u e => by rw [upd_ne nb]; exact e
  · rw [upd_ne (fun z => hb (by rw [z]; exact ha))]; exact e
  · by_cases hb : b = a
    · subst hb; rw [upd_same]; simp
    · rw [upd_ne hb]; exact h
where
  nodup_ixA {N : List Addr} (hN : N.Nodup) {i j : Nat} {x : Addr} (a : N[i]? = some x) (b : N[j]? = some x) : i = j := by
    obtain ⟨h1, e1⟩ := List.getElem?_eq_some_iff.mp a
    obtain ⟨h2, e2⟩ := List.getElem?_eq_some_iff.mp b
    exact (List.getElem_inj hN).mp (e1.trans e2.symm)
theorem Rel.setSlot (R : Rel t G ρ env μ σ H) {i : Nat} {d : D} {v : V} (h : rep t G ρ d v) : Rel t G ρ (env.set i (some d)) μ (σ.set i (some v)) H :=
  ⟨R.sub, R.nd, R.gn, R.len, R.cells, by simp [R.slen], fun j d' e => by
    by_cases hj : j = i
    · subst hj
      by_cases hl : j < env.length
      · rw [List.getElem?_set_self hl] at e
        cases e
        exact ⟨v, by rw [List.getElem?_set_self (by rw [R.slen]; exact hl)], h⟩
      · rw [List.getElem?_eq_none (by simp; omega)] at e; cases e
    · rw [List.getElem?_set_ne (Ne.symm hj)] at e
      obtain ⟨w, h1, h2⟩ := R.slots j d' e
      exact ⟨w, by rw [List.getElem?_set_ne (Ne.symm hj)]; exact h1, h2⟩, R.tab⟩
theorem Rel.reslot (R : Rel t G ρ env μ σ H) {env' : Ev} {σ' : St} (l : σ'.length = env'.length) (h : ∀ (i : Nat) d, env'[i]? = some (some d) → ∃ v, σ'[i]? = some (some v) ∧ rep t G ρ d v) : Rel t G ρ env' μ σ' H :=
  ⟨R.sub, R.nd, R.gn, R.len, R.cells, l, h, R.tab⟩
end
end Lr
namespace Lr
open PySem L2
noncomputable abbrev XW := Value → Option Addr → St → Hp → Prop
noncomputable abbrev ct (nm : Nm) (X : Cx) : Ct := ⟨X.K, X.mg, nm, X.w⟩
noncomputable def Po {α : Type} (r : Res α) (k : α → Prop) (x : Nat → List D → Mu → Prop) : Prop := match r with
  | .ok a => k a
  | .ex c ds μ => x c ds μ
  | .no => False
theorem Po.bind {α β : Type} {r : Res α} {f : α → Res β} {k : β → Prop} {x : Nat → List D → Mu → Prop} (h : Po (r.bind f) k x) : Po r (fun a => Po (f a) k x) x := by
  cases r <;> exact h
theorem Po.imp {α : Type} {r : Res α} {k k' : α → Prop} {x x' : Nat → List D → Mu → Prop} (h : Po r k x) (hk : ∀ a, k a → k' a) (hx : ∀ c ds μ, x c ds μ → x' c ds μ) : Po r k' x' := by
  cases r with
  | ok a => exact hk a h
  | ex c ds μ => exact hx c ds μ h
  | no => exact h
noncomputable def xfs (t : Ct) (G : Hp) (ρ : List Addr) (H : Hp) (c : Nat) (ds : List D) (dx : Option Addr) : Prop :=
  (ds = [] ∧ dx = none) ∨ ∃ d vs, dx = some d ∧ G d = some (.xd ((t.nm.cf c).zip vs)) ∧ vs.length ≤ (t.nm.cf c).length ∧ reps t G ρ ds vs
section
variable (t : Ct) (W : XW) (env : Ev) (σ : St) (G : Hp) (ρ : List Addr) (H : Hp)
noncomputable def KX (c : Nat) (ds : List D) (μ' : Mu) : Prop := ∀ C dx H' ρ' G', t.mg (t.nm.cn c) = some (.ref C) → Ext G ρ H G' ρ' H' → Rel t G' ρ' env μ' σ H' → xfs t G' ρ' H' c ds dx → W (.ref C) dx σ H'
noncomputable def KE (Q : VK) (r : D × Mu) : Prop := ∀ v H' ρ' G', Ext G ρ H G' ρ' H' → Rel t G' ρ' env r.2 σ H' → rep t G' ρ' r.1 v → Q v H'
noncomputable def KT (Q : Bool → Hp → Prop) (r : Bool × Mu) : Prop := ∀ H' ρ' G', Ext G ρ H G' ρ' H' → Rel t G' ρ' env r.2 σ H' → Q r.1 H'
noncomputable def KA (Q : List V → Hp → Prop) (r : List D × Mu) : Prop := ∀ vs H' ρ' G', Ext G ρ H G' ρ' H' → Rel t G' ρ' env r.2 σ H' → reps t G' ρ' r.1 vs → Q vs H'
end
section
variable {t : Ct} {W : XW} {env : Ev} {σ : St} {G G' : Hp} {ρ ρ' : List Addr} {H H' : Hp} (e : Ext G ρ H G' ρ' H')
include e
theorem KX.re {c ds μ} (h : KX t W env σ G ρ H c ds μ) : KX t W env σ G' ρ' H' c ds μ := fun C dx H2 ρ2 G2 m x => h C dx H2 ρ2 G2 m (e.trans x)
theorem KE.re {Q r} (h : KE t env σ G ρ H Q r) : KE t env σ G' ρ' H' Q r := fun v H2 ρ2 G2 x => h v H2 ρ2 G2 (e.trans x)
theorem KT.re {Q r} (h : KT t env σ G ρ H Q r) : KT t env σ G' ρ' H' Q r := fun H2 ρ2 G2 x => h H2 ρ2 G2 (e.trans x)
theorem KA.re {Q r} (h : KA t env σ G ρ H Q r) : KA t env σ G' ρ' H' Q r := fun vs H2 ρ2 G2 x => h vs H2 ρ2 G2 (e.trans x)
theorem Po.reE {Q} {r : Res (D × Mu)} (h : Po r (KE t env σ G ρ H Q) (KX t W env σ G ρ H)) : Po r (KE t env σ G' ρ' H' Q) (KX t W env σ G' ρ' H') := h.imp (fun _ => KE.re e) (fun _ _ _ => KX.re e)
theorem Po.reT {Q} {r : Res (Bool × Mu)} (h : Po r (KT t env σ G ρ H Q) (KX t W env σ G ρ H)) : Po r (KT t env σ G' ρ' H' Q) (KX t W env σ G' ρ' H') := h.imp (fun _ => KT.re e) (fun _ _ _ => KX.re e)
theorem Po.reA {Q} {r : Res (List D × Mu)} (h : Po r (KA t env σ G ρ H Q) (KX t W env σ G ρ H)) : Po r (KA t env σ G' ρ' H' Q) (KX t W env σ G' ρ' H') := h.imp (fun _ => KA.re e) (fun _ _ _ => KX.re e)
end
noncomputable def wpE (X : Cx) (e : Expr) : TE := fun σ H Q => ∀ pins s, Inv X pins σ H s → wpAny (model X.prog X.w) X.A (eval e X.env) (EP X pins σ Q) X.xe s
noncomputable def wpT (X : Cx) (e : Expr) : TT := fun σ H Q => ∀ pins s, Inv X pins σ H s → wpAny (model X.prog X.w) X.A (isTrue e X.env (eval e X.env)) (TP X pins σ Q) X.xe s
noncomputable def wpW (X : Cx) (e : Expr) : TT := fun σ H Q => ∀ wh pins s, Inv X pins σ H s → wpAny (model X.prog X.w) X.A (isTrue e X.env wh) (TP X pins σ Q) X.xe s
noncomputable def wpA (X : Cx) (es : List Expr) : TA := fun σ H Q => ∀ pos pins s, Inv X pins σ H s → wpAny (model X.prog X.w) X.A (spliced (backTo pos (starEach es X.env))) (AP X pins σ Q) X.xe s
section
variable {X : Cx} {e : Expr} {es : List Expr}
theorem pe_wp : PE X e (wpE X e) := ⟨fun pins s σ H Q I h => h pins s I⟩
theorem pt_wp : PT X e (wpT X e) := ⟨fun pins s σ H Q I h => h pins s I⟩
theorem pw_wp : PW X e (wpW X e) := ⟨fun wh pins s σ H Q I h => h wh pins s I⟩
theorem pa_wp : PA X es (wpA X es) := ⟨fun pos pins s σ H Q I h => h pos pins s I⟩
theorem to_e {t : TE} (p : PE X e t) {σ H Q} (h : t σ H Q) : wpE X e σ H Q := fun pins s I => p.run pins s σ H Q I h
theorem to_t {t : TT} (p : PT X e t) {σ H Q} (h : t σ H Q) : wpT X e σ H Q := fun pins s I => p.run pins s σ H Q I h
theorem to_w {t : TT} (p : PW X e t) {σ H Q} (h : t σ H Q) : wpW X e σ H Q := fun wh pins s I => p.run wh pins s σ H Q I h
theorem to_a {t : TA} (p : PA X es t) {σ H Q} (h : t σ H Q) : wpA X es σ H Q := fun pos pins s I => p.run pos pins s σ H Q I h
end
structure EV (nm : Nm) (X : Cx) (W : XW) (e : Expr) (m : M) : Prop where
  run : ∀ env μ σ H ρ G Q, Rel (ct nm X) G ρ env μ σ H → Po (m env μ) (KE (ct nm X) env σ G ρ H Q) (KX (ct nm X) W env σ G ρ H) → wpE X e σ H Q
noncomputable abbrev MT := Ev → Mu → Res (Bool × Mu)
structure TV (nm : Nm) (X : Cx) (W : XW) (e : Expr) (m : MT) : Prop where
  run : ∀ env μ σ H ρ G Q, Rel (ct nm X) G ρ env μ σ H → Po (m env μ) (KT (ct nm X) env σ G ρ H Q) (KX (ct nm X) W env σ G ρ H) → wpT X e σ H Q
structure WV (nm : Nm) (X : Cx) (W : XW) (e : Expr) (m : MT) : Prop where
  run : ∀ env μ σ H ρ G Q, Rel (ct nm X) G ρ env μ σ H → Po (m env μ) (KT (ct nm X) env σ G ρ H Q) (KX (ct nm X) W env σ G ρ H) → wpW X e σ H Q
noncomputable abbrev MA := Ev → Mu → Res (List D × Mu)
structure AV (nm : Nm) (X : Cx) (W : XW) (es : List Expr) (m : MA) : Prop where
  len : ∀ env μ r, m env μ = .ok r → r.1.length = es.length
  run : ∀ env μ σ H ρ G Q, Rel (ct nm X) G ρ env μ σ H → Po (m env μ) (KA (ct nm X) env σ G ρ H Q) (KX (ct nm X) W env σ G ρ H) → wpA X es σ H Q
theorem lineN_eq : sizeLine = lineN := sizeLine_eq
noncomputable def cK (d : D) : M := fun _ μ => .ok (d, μ)
noncomputable def cV (i : Nat) : M := fun env μ => match env[i]? with
  | some (some d) => .ok (d, μ)
  | _ => .no
noncomputable abbrev F1 := D → Mu → Res (D × Mu)
noncomputable abbrev F2 := D → D → Mu → Res (D × Mu)
noncomputable def cU (f : F1) (a : M) : M := fun env μ => (a env μ).bind fun x => f x.1 x.2
noncomputable def cB (f : F2) (a b : M) : M := fun env μ => (a env μ).bind fun x => (b env x.2).bind fun y => f x.1 y.1 y.2
noncomputable def cNil : MA := fun _ μ => .ok ([], μ)
noncomputable def cCons (a : M) (r : MA) : MA := fun env μ => (a env μ).bind fun x => (r env x.2).bind fun y => .ok (x.1 :: y.1, y.2)
noncomputable abbrev FN := List D → Mu → Res (D × Mu)
noncomputable def cF (f : FN) (a : MA) : M := fun env μ => (a env μ).bind fun x => f x.1 x.2
noncomputable def boolOf (r : D × Mu) : Res (Bool × Mu) := match r.1 with
  | .bl b => .ok (b, r.2)
  | _ => .no
noncomputable def tVal (a : M) : MT := fun env μ => (a env μ).bind boolOf
noncomputable def tAndD (a b : MT) : MT := fun env μ => (a env μ).bind fun x => if x.1 then b env x.2 else .ok (false, x.2)
noncomputable def tOrD (a b : MT) : MT := fun env μ => (a env μ).bind fun x => if x.1 then .ok (true, x.2) else b env x.2
noncomputable def tNotD (a : MT) : MT := fun env μ => (a env μ).bind fun x => .ok (!x.1, x.2)
noncomputable def cAndD (a b : M) : M := fun env μ => (a env μ).bind fun x => match x.1 with
  | .bl true => b env x.2
  | .bl false => .ok (.bl false, x.2)
  | _ => .no
noncomputable def cOrD (a b : M) : M := fun env μ => (a env μ).bind fun x => match x.1 with
  | .bl true => .ok (.bl true, x.2)
  | .bl false => b env x.2
  | _ => .no
noncomputable def cIf (c : MT) (a b : M) : M := fun env μ => (c env μ).bind fun x => if x.1 then a env x.2 else b env x.2
noncomputable def cTup (a : MA) : M := fun env μ => (a env μ).bind fun x => if x.1.length ≤ lineN then .ok (.tup x.1, x.2) else .no
noncomputable def mkL (b : Bool) (ds : List D) (μ : Mu) : D × Mu := bif b then (.ref μ.length, μ ++ [.lst ds]) else (.lst ds, μ)
noncomputable def cLst (b : Bool) (a : MA) : M := fun env μ => (a env μ).bind fun x => if x.1.length ≤ lineN then .ok (mkL b x.1 x.2) else .no
noncomputable def Op2 (nm : Nm) (X : Cx) (W : XW) (f : F2) (r : R2) : Prop := ∀ env μ σ H ρ G Q d1 d2 v1 v2, Rel (ct nm X) G ρ env μ σ H → rep (ct nm X) G ρ d1 v1 → rep (ct nm X) G ρ d2 v2 →
  Po (f d1 d2 μ) (KE (ct nm X) env σ G ρ H Q) (KX (ct nm X) W env σ G ρ H) → r v1 v2 H Q
noncomputable def OpN (nm : Nm) (X : Cx) (W : XW) (f : FN) (r : List V → Hp → VK → Prop) : Prop := ∀ env μ σ H ρ G Q ds vs, Rel (ct nm X) G ρ env μ σ H → reps (ct nm X) G ρ ds vs →
  Po (f ds μ) (KE (ct nm X) env σ G ρ H Q) (KX (ct nm X) W env σ G ρ H) → r vs H Q
section
variable {nm : Nm} {X : Cx} {W : XW} {a b c : Expr} {es rest : List Expr} {pos : Pos} {m ma mb : M} {mt mu : MT} {ms : MA}
theorem bin_run (ha : EV nm X W a ma) (hb : EV nm X W b mb) {f : F2} {r : R2} (hf : Op2 nm X W f r) {env μ σ H ρ G Q} (R : Rel (ct nm X) G ρ env μ σ H)
    (P : Po (cB f ma mb env μ) (KE (ct nm X) env σ G ρ H Q) (KX (ct nm X) W env σ G ρ H)) : tOp r (wpE X a) (wpE X b) σ H Q := by
  refine ha.run env μ σ H ρ G _ R ((Po.bind P).imp (fun x hx v H1 ρ1 G1 e1 R1 r1 => ?_) fun _ _ _ h => h)
  refine hb.run env x.2 σ H1 ρ1 G1 _ R1 ((Po.bind (Po.imp hx (fun _ h => h.re e1) fun _ _ _ h => h.re e1)).imp (fun y hy w H2 ρ2 G2 e2 R2 r2 => ?_) fun _ _ _ h => h)
  exact hf env y.2 σ H2 ρ2 G2 Q x.1 y.1 v w R2 (e2.rep r1) r2 (Po.reE e2 hy)
theorem args_run (ha : AV nm X W es ms) {f : FN} {r : List V → Hp → VK → Prop} (hf : OpN nm X W f r) {env μ σ H ρ G Q} (R : Rel (ct nm X) G ρ env μ σ H)
    (P : Po (cF f ms env μ) (KE (ct nm X) env σ G ρ H Q) (KX (ct nm X) W env σ G ρ H)) : wpA X es σ H fun vs H1 => r vs H1 Q := by
  refine ha.run env μ σ H ρ G _ R ((Po.bind P).imp (fun x hx vs H1 ρ1 G1 e1 R1 r1 => ?_) fun _ _ _ h => h)
  exact hf env x.2 σ H1 ρ1 G1 Q x.1 vs R1 r1 (Po.reE e1 hx)
theorem ev_of {m : M} {t : TE} (p : PE X a t) (h : ∀ env μ σ H ρ G Q, Rel (ct nm X) G ρ env μ σ H → Po (m env μ) (KE (ct nm X) env σ G ρ H Q) (KX (ct nm X) W env σ G ρ H) → t σ H Q) : EV nm X W a m :=
  ⟨fun env μ σ H ρ G Q R P => to_e p (h env μ σ H ρ G Q R P)⟩
theorem ev_var (i : Nat) {x : Str} (hN : X.N[i]? = some x := by rfl) (hv : Vis X.env.scope x := by first | exact Or.inl rfl | exact Or.inr (Or.inl rfl) | exact Or.inr (Or.inr rfl)) (hd : (x == ("__debug__" : Str)) = false := by decide)
    (hcd : (x == ("__classdict__" : Str)) = false := by decide) : EV nm X W (.Name x pos) (cV i) := ev_of (pe_var hN hv hd hcd) fun env μ σ H ρ G Q R P => by
  unfold cV at P
  split at P
  · rename_i d e
    obtain ⟨v, h1, h2⟩ := R.slots i d e
    exact ⟨v, h1, P v H ρ G .refl R h2⟩
  · exact P.elim
theorem ev_int {i j} : EV nm X W (.Constant (.int i) j pos) (cK (.int i)) := ev_of pe_int fun env μ σ H ρ G Q R P => P _ H ρ G .refl R rfl
theorem ev_bl {i j} : EV nm X W (.Constant (.bool i) j pos) (cK (.bl i)) := ev_of pe_bl fun env μ σ H ρ G Q R P => P _ H ρ G .refl R rfl
theorem ev_non {j} : EV nm X W (.Constant .none j pos) (cK .non) := ev_of pe_non fun env μ σ H ρ G Q R P => P _ H ρ G .refl R rfl
theorem ev_str {x : Str} {j} (y : List Nat) (h : x.cps.toList = y := by decide +kernel) (ho : okS y = true := by decide +kernel) : EV nm X W (.Constant (.str x) j pos) (cK (.str y)) := ev_of pe_str fun env μ σ H ρ G Q R P => by
  have e : x = S y := by rw [← h, S_of]
  exact P _ H ρ G .refl R ⟨by rw [e], ho⟩
theorem ev_glob {x : Str} {u : Value} {d : D} {v : V} (hg : Gl X x) (hm : X.mg x = some u) (r : RelV v u) (hr : ∀ G ρ, rep (ct nm X) G ρ d v) (hd : (x == ("__debug__" : Str)) = false := by decide) : EV nm X W (.Name x pos) (cK d) :=
  ev_of (pe_glob hg hm r hd) fun env μ σ H ρ G Q R P => P _ H ρ G .refl R (hr G ρ)
theorem ev_bin {op : Operator} {f : F2} {r : R2} (ho : OpR X (binaryOp op) r) (hf : Op2 nm X W f r) (ha : EV nm X W a ma) (hb : EV nm X W b mb) : EV nm X W (.BinOp a op b pos) (cB f ma mb) :=
  ev_of (pe_op ho pe_wp pe_wp) fun env μ σ H ρ G Q R P => bin_run ha hb hf R P
theorem ev_cmp {op : CmpOp} {f : F2} {r : R2} (ho : OpR X (compareOp op) r) (hf : Op2 nm X W f r) (ha : EV nm X W a ma) (hb : EV nm X W b mb) (hm : behindInMarks op b = false := by first | exact nomark _ | rfl) :
    EV nm X W (.Compare a [op] [b] pos) (cB f ma mb) :=
  ev_of (pe_cmpR ho pe_wp pe_wp hm) fun env μ σ H ρ G Q R P => bin_run ha hb hf R P
theorem tv_cmp {op : CmpOp} {f : F2} {r : R2} (ho : OpR X (compareOp op) r) (hf : Op2 nm X W f r) (ha : EV nm X W a ma) (hb : EV nm X W b mb) (hm : behindInMarks op b = false := by first | exact nomark _ | rfl) :
    TV nm X W (.Compare a [op] [b] pos) (tVal (cB f ma mb)) := ⟨fun env μ σ H ρ G Q R P => to_t (pt_cmpR ho pe_wp pe_wp hm) (by
  refine bin_run ha hb hf R (Po.imp (Po.bind P) (fun x hx v H' ρ' G' e R' r' => ?_) fun _ _ _ h => h)
  obtain ⟨d, μ'⟩ := x
  cases d <;> first
    | exact hx.elim
    | (cases r'; exact ⟨_, rfl, hx H' ρ' G' e R'⟩))⟩
theorem tv_val (ha : EV nm X W a ma) (he : ∀ whole, isTrue a X.env whole = (do let v ← whole; standAt a.pos; holding [v] (truthy v)) := by intro _; rfl) : TV nm X W a (tVal ma) :=
  ⟨fun env μ σ H ρ G Q R P => to_t (pt_val pe_wp he) (by
  refine ha.run env μ σ H ρ G _ R (Po.imp (Po.bind P) (fun x hx v H' ρ' G' e R' r' => ?_) fun _ _ _ h => h)
  obtain ⟨d, μ'⟩ := x
  cases d <;> first
    | exact hx.elim
    | (cases r'; exact ⟨_, rfl, hx H' ρ' G' e R'⟩))⟩
theorem tv_not (ha : TV nm X W a mt) : TV nm X W (.UnaryOp .Not a pos) (tNotD mt) := ⟨fun env μ σ H ρ G Q R P => to_t (pt_not pt_wp) (by
  exact ha.run env μ σ H ρ G _ R (Po.imp (Po.bind P) (fun x hx H' ρ' G' e R' => hx H' ρ' G' e R') fun _ _ _ h => h))⟩
theorem tv_w (h : WV nm X W a mt) : TV nm X W a mt := ⟨fun env μ σ H ρ G Q R P => fun pins s I => h.run env μ σ H ρ G Q R P _ pins s I⟩
theorem wv_and1 (ha : TV nm X W a mt) : WV nm X W (.BoolOp .And [a] pos) mt := ⟨fun env μ σ H ρ G Q R P => to_w (pw_and1 pt_wp) (ha.run env μ σ H ρ G Q R P)⟩
theorem wv_or1 (ha : TV nm X W a mt) : WV nm X W (.BoolOp .Or [a] pos) mt := ⟨fun env μ σ H ρ G Q R P => to_w (pw_or1 pt_wp) (ha.run env μ σ H ρ G Q R P)⟩
theorem wv_and (ha : TV nm X W a mt) (hb : WV nm X W (.BoolOp .And (b :: rest) pos) mu) : WV nm X W (.BoolOp .And (a :: b :: rest) pos) (tAndD mt mu) := ⟨fun env μ σ H ρ G Q R P => to_w (pw_and pt_wp pw_wp) (by
  refine ha.run env μ σ H ρ G _ R (Po.imp (Po.bind P) (fun x hx H' ρ' G' e R' => ?_) fun _ _ _ h => h)
  obtain ⟨c, μ'⟩ := x
  cases c with
  | true => exact iteT (hb.run env μ' σ H' ρ' G' Q R' (Po.reT e hx))
  | false => exact iteF (hx H' ρ' G' e R'))⟩
theorem wv_or (ha : TV nm X W a mt) (hb : WV nm X W (.BoolOp .Or (b :: rest) pos) mu) : WV nm X W (.BoolOp .Or (a :: b :: rest) pos) (tOrD mt mu) := ⟨fun env μ σ H ρ G Q R P => to_w (pw_or pt_wp pw_wp) (by
  refine ha.run env μ σ H ρ G _ R (Po.imp (Po.bind P) (fun x hx H' ρ' G' e R' => ?_) fun _ _ _ h => h)
  obtain ⟨c, μ'⟩ := x
  cases c with
  | true => exact iteT (hx H' ρ' G' e R')
  | false => exact iteF (hb.run env μ' σ H' ρ' G' Q R' (Po.reT e hx)))⟩
noncomputable def dNot (d : D) (μ : Mu) : Res (D × Mu) := match d with
  | .bl b => .ok (.bl (!b), μ)
  | _ => .no
theorem cCons_len {n : Nat} (hl : ∀ env μ r, ms env μ = .ok r → r.1.length = n) {env μ r} (h : cCons ma ms env μ = .ok r) : r.1.length = n + 1 := by
  unfold cCons at h
  cases h1 : ma env μ with
  | ok x =>
    rw [h1] at h
    cases h2 : ms env x.2 with
    | ok y =>
      simp only [Res.bind, h2] at h
      cases h
      rw [List.length_cons, hl env x.2 y h2]
    | ex => simp only [Res.bind, h2] at h; cases h
    | no => simp only [Res.bind, h2] at h; cases h
  | ex => rw [h1] at h; cases h
  | no => rw [h1] at h; cases h
theorem av_nil : AV nm X W [] cNil := ⟨(fun env μ r h => by cases h; rfl), fun env μ σ H ρ G Q R P => to_a pa_nil (P [] H ρ G .refl R rfl)⟩
theorem av_cons (ha : EV nm X W a ma) (hr : AV nm X W es ms) (hs : starEach (a :: es) X.env = (false, eval a X.env) :: starEach es X.env := by rfl) : AV nm X W (a :: es) (cCons ma ms) :=
  ⟨fun env μ r h => cCons_len hr.len h, fun env μ σ H ρ G Q R P => to_a (pa_cons pe_wp pa_wp hs) (by
  refine ha.run env μ σ H ρ G _ R (Po.imp (Po.bind P) (fun x hx v H1 ρ1 G1 e1 R1 r1 => ?_) fun _ _ _ h => h)
  refine hr.run env x.2 σ H1 ρ1 G1 _ R1 (Po.imp (Po.bind (Po.reA e1 hx)) (fun y hy vs H2 ρ2 G2 e2 R2 r2 => ?_) fun _ _ _ h => h)
  exact hy (v :: vs) H2 ρ2 G2 e2 R2 ⟨v, vs, rfl, e2.rep r1, r2⟩)⟩
theorem new_lst {env : Ev} {μ : Mu} {σ : St} {H G : Hp} {ρ : List Addr} (R : Rel (ct nm X) G ρ env μ σ H) {ds : List D} {vs : List V} {Q : VK} (r : reps (ct nm X) G ρ ds vs) (P : KE (ct nm X) env σ G ρ H Q (.ref μ.length, μ ++ [.lst ds])) : ∀ p, H p = none → Q (.ref p) (upd H p (.lst vs)) := fun p hp => by
  obtain ⟨R2, e2, g⟩ := R.newCell (o := .lst vs) (d := .lst ds) hp ⟨vs, upd_same, reps.mono (Same.refl _) ⟨[p], rfl⟩ _ _ r⟩
  exact P _ _ _ _ e2 R2 ⟨p, g, rfl⟩
theorem new_L {env : Ev} {μ : Mu} {σ : St} {H G : Hp} {ρ : List Addr} {b : Bool} (R : Rel (ct nm X) G ρ env μ σ H) {ds : List D} {vs : List V} {Q : VK} (r : reps (ct nm X) G ρ ds vs) (P : KE (ct nm X) env σ G ρ H Q (mkL b ds μ)) : ∀ p, H p = none → Q (.ref p) (upd H p (.lst vs)) := by
  cases b with
  | true => exact new_lst R r P
  | false =>
    intro p hp
    obtain ⟨R2, e2⟩ := R.laidG (.lst vs) hp
    exact P _ _ ρ _ e2 R2 ⟨p, vs, rfl, upd_same, e2.reps r⟩
theorem new_tup {env : Ev} {μ : Mu} {σ : St} {H G : Hp} {ρ : List Addr} (R : Rel (ct nm X) G ρ env μ σ H) {ds : List D} {vs : List V} {Q : VK} (r : reps (ct nm X) G ρ ds vs) (P : KE (ct nm X) env σ G ρ H Q (.tup ds, μ)) : ∀ p, H p = none → Q (.ref p) (upd H p (.tup vs)) := fun p hp => by
  obtain ⟨R2, e2⟩ := R.laidG (.tup vs) hp
  exact P _ _ ρ _ e2 R2 ⟨p, vs, rfl, upd_same, e2.reps r⟩
theorem ev_lst (fl : Bool) (h : AV nm X W es ms) : EV nm X W (.List es pos) (cLst fl ms) := ev_of (pe_lst pa_wp) fun env μ σ H ρ G Q R P => by
  refine h.run env μ σ H ρ G _ R (Po.imp (Po.bind P) (fun x hx vs H1 ρ1 G1 e1 R1 r1 => ?_) fun _ _ _ h => h)
  split at hx
  · rename_i hz
    exact ⟨by rw [r1.length, lineN_eq]; exact hz, new_L R1 r1 (KE.re e1 hx)⟩
  · exact hx.elim
end
end Lr
namespace Lr
open PySem L2
noncomputable def lof (d : D) (μ : Mu) : Option (List D) := match d with
  | .lst ds => some ds
  | .scr ds => some ds
  | .ref n => match μ[n]? with
    | some (.lst ds) => some ds
    | _ => none
  | _ => none
noncomputable def lofT (d : D) (μ : Mu) : Option (List D) := match d with
  | .lst ds => some ds
  | .ref n => match μ[n]? with
    | some (.lst ds) => some ds
    | _ => none
  | _ => none
section
variable {nm : Nm} {X : Cx} {W : XW} {env : Ev} {μ : Mu} {σ : St} {H G : Hp} {ρ : List Addr}
theorem lof_ok (R : Rel (ct nm X) G ρ env μ σ H) {d : D} {v : V} {ds : List D} (h : rep (ct nm X) G ρ d v) (e : lof d μ = some ds) : ∃ a vs, v = .ref a ∧ SqL X.K H a vs ∧ reps (ct nm X) G ρ ds vs := by
  unfold lof at e
  split at e
  · cases e
    obtain ⟨a, vs, e1, q, r⟩ := h
    exact ⟨a, vs, e1, SqL.of (R.sub _ _ q), r⟩
  · cases e
    obtain ⟨a, vs, e1, q, r⟩ := h
    exact ⟨a, vs, e1, R.sub.seq q, r⟩
  · split at e
    · rename_i n ds' e2
      cases e
      obtain ⟨a, e3, e4⟩ := h
      obtain ⟨b, e5, vs, e6, r⟩ := R.ofCell e2
      rw [e3] at e5; cases e5
      exact ⟨a, vs, e4, SqL.of e6, r⟩
    · cases e
  · cases e
theorem cell_lst (R : Rel (ct nm X) G ρ env μ σ H) {n : Nat} {v : V} {ds : List D} (h : rep (ct nm X) G ρ (.ref n) v) (e : μ[n]? = some (.lst ds)) :
    ∃ a vs, v = .ref a ∧ ρ[n]? = some a ∧ H a = some (.lst vs) ∧ reps (ct nm X) G ρ ds vs := by
  obtain ⟨a, e3, e4⟩ := h
  obtain ⟨b, e5, vs, e6, r⟩ := R.ofCell e
  rw [e3] at e5; cases e5
  exact ⟨a, vs, e4, e3, e6, r⟩
theorem lofT_ok (R : Rel (ct nm X) G ρ env μ σ H) {d : D} {v : V} {ds : List D} (h : rep (ct nm X) G ρ d v) (e : lofT d μ = some ds) : ∃ a vs, v = .ref a ∧ H a = some (.lst vs) ∧ reps (ct nm X) G ρ ds vs := by
  unfold lofT at e
  split at e
  · cases e
    obtain ⟨a, vs, e1, q, r⟩ := h
    exact ⟨a, vs, e1, R.sub _ _ q, r⟩
  · split at e
    · rename_i n ds' e2
      cases e
      obtain ⟨a, vs, e1, _, e2, r⟩ := cell_lst R h e2
      exact ⟨a, vs, e1, e2, r⟩
    · cases e
  · cases e
theorem tup_H (R : Rel (ct nm X) G ρ env μ σ H) {v : V} {ds : List D} (h : rep (ct nm X) G ρ (.tup ds) v) : ∃ a vs, v = .ref a ∧ SqT X.K H a vs ∧ reps (ct nm X) G ρ ds vs := by
  obtain ⟨a, vs, e, q, r⟩ := h
  exact ⟨a, vs, e, SqT.of (R.sub _ _ q), r⟩
theorem tpz_H (R : Rel (ct nm X) G ρ env μ σ H) {v : V} {ds : List D} (h : rep (ct nm X) G ρ (.tpz ds) v) : ∃ a vs, v = .ref a ∧ SqT X.K H a vs ∧ reps (ct nm X) G ρ ds vs := by
  obtain ⟨a, vs, e, ⟨o, q, _⟩, r⟩ := h
  exact ⟨a, vs, e, .inl (.inr ⟨o, R.sub _ _ q⟩), r⟩
theorem tup_T (R : Rel (ct nm X) G ρ env μ σ H) {v : V} {ds : List D} (h : rep (ct nm X) G ρ (.tup ds) v) : ∃ a vs, v = .ref a ∧ H a = some (.tup vs) ∧ reps (ct nm X) G ρ ds vs := by
  obtain ⟨a, vs, e, q, r⟩ := h
  exact ⟨a, vs, e, R.sub _ _ q, r⟩
end
noncomputable def okMul (i j : Int) : Prop := (-(2 ^ 64) < i ∧ i < 2 ^ 64) ∨ (-(2 ^ 64) < j ∧ j < 2 ^ 64) ∨ i.natAbs.log2 + j.natAbs.log2 < 1000000
noncomputable instance {i j} : Decidable (okMul i j) := by unfold okMul; infer_instance
noncomputable def okDiv (j : Int) : Prop := 0 < j ∧ j.natAbs.log2 < 9000
noncomputable instance {j} : Decidable (okDiv j) := by unfold okDiv; infer_instance
theorem okS_len {x : List Nat} (h : okS x = true) : x.length ≤ lineN := by unfold okS at h; simp at h; exact h.1
theorem okS_mem {x : List Nat} (h : okS x = true) {c : Nat} (hc : c ∈ x) : c < 1114112 := by unfold okS at h; simp at h; exact h.2 c hc
theorem okS_mk {x : List Nat} (h1 : x.length ≤ lineN) (h2 : ∀ c ∈ x, c < 1114112) : okS x = true := by unfold okS; simp; exact ⟨h1, h2⟩
theorem okS_app {x y : List Nat} (h1 : okS x = true) (h2 : okS y = true) (h : x.length + y.length ≤ lineN) : okS (x ++ y) = true :=
  okS_mk (by rw [List.length_append]; exact h) fun c hc => (List.mem_append.mp hc).elim (okS_mem h1) (okS_mem h2)
theorem okS_sub {x y : List Nat} (h1 : okS x = true) (h : y.length ≤ x.length) (hs : ∀ c ∈ y, c ∈ x) : okS y = true := okS_mk (Nat.le_trans h (okS_len h1)) fun c hc => okS_mem h1 (hs c hc)
noncomputable def dAdd (fl : Bool) : F2 := fun a b μ => match a, b with
  | .int i, .int j => .ok (.int (i + j), μ)
  | .int i, .bl k => .ok (.int (i + PyProof.Rows.b2i k), μ)
  | .str x, .str y => if x.length + y.length ≤ lineN then .ok (.str (x ++ y), μ) else .no
  | .tup xs, .tup ys => if xs.length + ys.length ≤ lineN then .ok (.tup (xs ++ ys), μ) else .no
  | a, b => match lofT a μ, lofT b μ with
    | some xs, some ys => if xs.length + ys.length ≤ lineN then .ok (mkL fl (xs ++ ys) μ) else .no
    | _, _ => .no
noncomputable def dSub : F2 := fun a b μ => match a, b with
  | .int i, .int j => .ok (.int (i - j), μ)
  | _, _ => .no
noncomputable def dMul (fl : Bool) : F2 := fun a b μ => match a, b with
  | .int i, .int j => if okMul i j then .ok (.int (i * j), μ) else .no
  | .str x, .int k => if -(2 ^ 63) ≤ k ∧ k < 2 ^ 63 ∧ x.length * k.toNat ≤ lineN then .ok (.str (List.replicate k.toNat x).flatten, μ) else .no
  | .tup xs, .int k => if xs ≠ [] ∧ 2 ≤ k ∧ k ≤ 1000 ∧ xs.length ≤ 1000 then .ok (.tup (List.replicate k.toNat xs).flatten, μ) else .no
  | a, .int k => match lofT a μ with
    | some xs => if -(2 ^ 63) ≤ k ∧ k < 2 ^ 63 ∧ xs.length * k.toNat ≤ lineN then .ok (mkL fl (List.replicate k.toNat xs).flatten μ) else .no
    | _ => .no
  | _, _ => .no
noncomputable def dDiv : F2 := fun a b μ => match a, b with
  | .int i, .int j => if okDiv j then .ok (.int (i / j), μ) else .no
  | _, _ => .no
noncomputable def dMod : F2 := fun a b μ => match a, b with
  | .int i, .int j => if 0 < j then .ok (.int (i % j), μ) else .no
  | _, _ => .no
noncomputable def dPow : F2 := fun a b μ => match a, b with
  | .int i, .int j => if 0 ≤ j ∧ j ≤ 1000000 ∧ i.natAbs < 2 ^ 64 then .ok (.int (i ^ j.toNat), μ) else .no
  | _, _ => .no
theorem S_rep (x : List Nat) (k : Nat) : (⟨(List.replicate k x.toArray).foldl (· ++ ·) #[]⟩ : Str) = S (List.replicate k x).flatten := by
  have h : ∀ (k : Nat) (acc : List Nat), (List.replicate k x.toArray).foldl (· ++ ·) acc.toArray = (acc ++ (List.replicate k x).flatten).toArray := by
    intro k
    induction k with
    | zero => intro acc; simp
    | succ k ih =>
      intro acc
      rw [List.replicate_succ, List.foldl_cons, List.replicate_succ, List.flatten_cons]
      have : acc.toArray ++ x.toArray = (acc ++ x).toArray := by simp
      rw [this, ih, List.append_assoc]
  have := h k []
  simp only [List.nil_append] at this
  show (⟨_⟩ : Str) = ⟨_⟩
  rw [← this]
theorem op_mulS {X : Cx} : OpR X (binaryOp .Mult) (fun x y H Q => ∃ i k, x = .str (S i) ∧ y = .int k ∧ -(2 ^ 63) ≤ k ∧ k < 2 ^ 63 ∧ i.length * k.toNat ≤ sizeLine ∧ Q (.str (S (List.replicate k.toNat i).flatten)) H) := by
  intro pins s σ H x y v u Q I rx ry h
  obtain ⟨i, k, rfl, rfl, h1, h2, hz, q⟩ := h
  obtain ⟨t, rfl⟩ := rx
  obtain ⟨t', rfl⟩ := ry
  refine P.mul_str ?_ (fun a b => ?_) (fun a b => ?_) ?_
  · rw [decide_eq_false (by omega), decide_eq_false (by omega)]; rfl
  · rw [S_len]
    have hk : (k.toNat : Int) = k := Int.toNat_of_nonneg (by omega)
    have hz' : i.length * k.toNat ≤ 16777216 := hz
    have hz2 : (i.length : Int) * k ≤ 16777216 := by
      rw [← hk, ← Int.natCast_mul]; exact Int.ofNat_le.mpr hz'
    intro hc
    have hc' : (2 ^ 63 - 1) / k < (i.length : Int) := hc
    rw [Int.ediv_lt_iff_lt_mul (by omega)] at hc'
    omega
  · rw [S_len]
    unfold Builtin.Str.tooLong
    exact decide_eq_false (by omega)
  · split
    · rename_i hk
      have : k.toNat = 0 := by omega
      rw [this] at q
      exact ⟨by decide, .str (S []), H, I.tok _, ⟨_, rfl⟩, q⟩
    · split
      · rename_i h0 h3
        simp only [Bool.or_eq_true, beq_iff_eq, S_len] at h3
        rcases h3 with h3 | h3
        · subst h3
          refine ⟨.str (S i), H, I, ⟨_, rfl⟩, ?_⟩
          simpa using q
        · have : i = [] := List.eq_nil_of_length_eq_zero h3
          subst this
          refine ⟨.str (S []), H, I, ⟨_, rfl⟩, ?_⟩
          have e : (List.replicate k.toNat ([] : List Nat)).flatten = [] := by simp
          rw [e] at q
          exact q
      · have e := S_rep i k.toNat
        have e2 : (⟨(List.replicate k.toNat (S i).cps).foldl (· ++ ·) #[]⟩ : Str) = S (List.replicate k.toNat i).flatten := e
        rw [e2]
        refine ⟨?_, .str (S (List.replicate k.toNat i).flatten), H, I.tok _, ⟨s.toks, rfl⟩, q⟩
        have : (List.replicate k.toNat i).flatten.length = k.toNat * i.length := by simp
        rw [S_len, this, Nat.mul_comm]
        exact hz
noncomputable def dNeg : F1 := fun a μ => match a with
  | .int i => .ok (.int (-i), μ)
  | _ => .no
section
variable {nm : Nm} {X : Cx} {W : XW}
noncomputable def rAddA (X : Cx) : R2 := fun x y H Q => (((rI0 fun i j => .int (i + j)) x y H Q ∨ (∃ i k, x = .int i ∧ y = .bl k ∧ Q (.int (i + PyProof.Rows.b2i k)) H)) ∨ (∃ i j, x = .str i ∧ y = .str j ∧ i.length + j.length ≤ sizeLine ∧ Q (.str (i ++ j)) H)) ∨ rCatA X.K x y H Q ∨ rCat x y H Q
theorem opr_add : OpR X (binaryOp .Add) (rAddA X) := ((op_add.or op_add_ib).or op_add_str).or (op_catA.or op_cat)
theorem S_app (x y : List Nat) : S x ++ S y = S (x ++ y) := by
  show (⟨x.toArray ++ y.toArray⟩ : Str) = ⟨(x ++ y).toArray⟩
  simp
theorem op2_add {fl : Bool} : Op2 nm X W (dAdd fl) (rAddA X) := by
  intro env μ σ H ρ G Q d1 d2 v1 v2 R r1 r2 P
  unfold dAdd at P
  split at P
  · cases r1; cases r2
    exact .inl (.inl (.inl ⟨_, _, rfl, rfl, P _ H ρ G .refl R rfl⟩))
  · cases r1; cases r2
    exact .inl (.inl (.inr ⟨_, _, rfl, rfl, P _ H ρ G .refl R rfl⟩))
  · obtain ⟨rfl, o1⟩ := r1
    obtain ⟨rfl, o2⟩ := r2
    split at P
    · rename_i hz
      refine .inl (.inr ⟨_, _, rfl, rfl, ?_, P _ H ρ G .refl R ⟨by rw [S_app], okS_app o1 o2 hz⟩⟩)
      rw [S_len, S_len, lineN_eq]; exact hz
    · exact P.elim
  · rename_i xs ys
    split at P
    · rename_i hz
      have r1' := r1
      have r2' := r2
      obtain ⟨a, vs, rfl, q1, k1⟩ := tup_H R r1
      obtain ⟨b, ws, rfl, q2, k2⟩ := tup_H R r2
      refine .inr (.inl ⟨a, b, vs, ws, rfl, rfl, q1, q2, by rw [k1.length, k2.length, lineN_eq]; exact hz, fun e => ?_, fun e1 e2 => ?_, fun e1 e2 => new_tup R (k1.app k2) P⟩)
      · have e2 : xs = [] := List.eq_nil_of_length_eq_zero (by rw [← k1.length, e]; rfl)
        subst e2
        exact P _ H ρ G .refl R r2'
      · have e3 : ys = [] := List.eq_nil_of_length_eq_zero (by rw [← k2.length, e2]; rfl)
        subst e3
        refine P _ H ρ G .refl R ?_
        show rep _ _ _ (.tup (xs ++ [])) _
        rw [List.append_nil]
        exact r1'
    · exact P.elim
  · split at P
    · rename_i xs ys e1 e2
      split at P
      · rename_i hz
        obtain ⟨a, vs, rfl, h1, q1⟩ := lofT_ok R r1 e1
        obtain ⟨b, ws, rfl, h2, q2⟩ := lofT_ok R r2 e2
        exact .inr (.inr ⟨a, b, vs, ws, rfl, rfl, h1, h2, by rw [q1.length, q2.length, lineN_eq]; exact hz, new_L R (q1.app q2) P⟩)
      · exact P.elim
    · exact P.elim
noncomputable def rMulS : R2 := fun x y H Q => ∃ i k, x = .str (S i) ∧ y = .int k ∧ -(2 ^ 63) ≤ k ∧ k < 2 ^ 63 ∧ i.length * k.toNat ≤ sizeLine ∧ Q (.str (S (List.replicate k.toNat i).flatten)) H
noncomputable def rMulA (X : Cx) : R2 := fun x y H Q => (((rI CMul fun i j => .int (i * j)) x y H Q ∨ (rI CMulW fun i j => .int (i * j)) x y H Q) ∨ rRep x y H Q) ∨ rMulS x y H Q ∨ rRepT X.K x y H Q
theorem opr_mul : OpR X (binaryOp .Mult) (rMulA X) := ((op_mul.or op_mulW).or op_rep).or (op_mulS.or op_repT)
theorem reps_flat {t : Ct} {G : Hp} {ρ : List Addr} {ds : List D} {vs : List V} (h : reps t G ρ ds vs) : ∀ k : Nat, reps t G ρ (List.replicate k ds).flatten (List.replicate k vs).flatten
  | 0 => by simp [reps]
  | k + 1 => by
    rw [List.replicate_succ, List.replicate_succ, List.flatten_cons, List.flatten_cons]
    exact h.app (reps_flat h k)
theorem op2_mul {fl : Bool} : Op2 nm X W (dMul fl) (rMulA X) := by
  intro env μ σ H ρ G Q d1 d2 v1 v2 R r1 r2 P
  unfold dMul at P
  split at P
  · cases r1; cases r2
    split at P
    · rename_i hz
      have p := P _ H ρ G .refl R rfl
      rcases hz with h | h | h
      · exact .inl (.inl (.inl ⟨_, _, rfl, rfl, .inl h, p⟩))
      · exact .inl (.inl (.inl ⟨_, _, rfl, rfl, .inr h, p⟩))
      · exact .inl (.inl (.inr ⟨_, _, rfl, rfl, h, p⟩))
    · exact P.elim
  · cases r2
    obtain ⟨rfl, o1⟩ := r1
    rename_i x k
    split at P
    · rename_i hz
      refine .inr (.inl ⟨x, k, rfl, rfl, hz.1, hz.2.1, by rw [lineN_eq]; exact hz.2.2, P _ H ρ G .refl R ⟨rfl, okS_mk ?_ fun c hc => ?_⟩⟩)
      · have : (List.replicate k.toNat x).flatten.length = k.toNat * x.length := by simp
        rw [this, Nat.mul_comm]; exact hz.2.2
      · obtain ⟨l, h1, h2⟩ := List.mem_flatten.mp hc
        rw [(List.mem_replicate.mp h1).2] at h2
        exact okS_mem o1 h2
    · exact P.elim
  · cases r2
    rename_i xs k
    split at P
    · rename_i hz
      obtain ⟨a, vs, rfl, q1, k1⟩ := tup_H R r1
      refine .inr (.inr ⟨a, k, vs, rfl, rfl, q1, fun e => hz.1 ?_, hz.2.1, hz.2.2.1, by rw [k1.length]; exact hz.2.2.2, new_tup R (reps_flat k1 _) P⟩)
      exact List.eq_nil_of_length_eq_zero (by rw [← k1.length, e]; rfl)
    · exact P.elim
  · cases r2
    split at P
    · rename_i xs e1
      split at P
      · rename_i hz
        obtain ⟨a, vs, rfl, h1, q1⟩ := lofT_ok R r1 e1
        exact .inl (.inr ⟨a, _, vs, rfl, rfl, h1, hz.1, hz.2.1, by rw [q1.length, lineN_eq]; exact hz.2.2, new_L R (reps_flat q1 _) P⟩)
      · exact P.elim
    · exact P.elim
  · exact P.elim
theorem op2_div : Op2 nm X W dDiv (rI CDivW fun i j => .int (i / j)) := by
  intro env μ σ H ρ G Q d1 d2 v1 v2 R r1 r2 P
  unfold dDiv at P
  split at P
  · cases r1; cases r2
    split at P
    · rename_i hz
      exact ⟨_, _, rfl, rfl, hz, P _ H ρ G .refl R rfl⟩
    · exact P.elim
  · exact P.elim
theorem op2_mod : Op2 nm X W dMod (rI (fun _ j => 0 < j) fun i j => .int (i % j)) := by
  intro env μ σ H ρ G Q d1 d2 v1 v2 R r1 r2 P
  unfold dMod at P
  split at P
  · cases r1; cases r2
    split at P
    · rename_i hz
      exact ⟨_, _, rfl, rfl, hz, P _ H ρ G .refl R rfl⟩
    · exact P.elim
  · exact P.elim
theorem op2_pow : Op2 nm X W dPow (rI CPow fun i j => .int (i ^ j.toNat)) := by
  intro env μ σ H ρ G Q d1 d2 v1 v2 R r1 r2 P
  unfold dPow at P
  split at P
  · cases r1; cases r2
    split at P
    · rename_i hz
      exact ⟨_, _, rfl, rfl, hz, P _ H ρ G .refl R rfl⟩
    · exact P.elim
  · exact P.elim
end
noncomputable def mapO {α β : Type} (f : α → Option β) : List α → Option (List β)
  | [] => some []
  | a :: r => match f a, mapO f r with
    | some x, some xs => some (x :: xs)
    | _, _ => none
mutual
noncomputable def toP : D → PyData
  | .non => .none | .bl b => .bool b | .int i => .int i | .str x => .str (S x)
  | .tup ds => .tuple (toPs ds) | .lst ds => .list (toPs ds) | .scr ds => .list (toPs ds)
  | .dic _ => .none | .dit _ => .none | .obj _ _ => .none | .ref _ => .none
  | .tpz ds => .tuple (toPs ds) | .exc _ _ => .none | .din _ => .none
noncomputable def toPs : List D → List PyData
  | [] => []
  | d :: ds => toP d :: toPs ds
end
mutual
noncomputable def pd : Nat → D → Bool
  | _, .non => true | _, .bl _ => true | _, .int _ => true | _, .str _ => true
  | k, .tup ds => match k with | 0 => false | k + 1 => pds k ds
  | k, .lst ds => match k with | 0 => false | k + 1 => pds k ds
  | k, .scr ds => match k with | 0 => false | k + 1 => pds k ds
  | k, .tpz ds => match k with | 0 => false | k + 1 => pds k ds
  | _, .dic _ => false | _, .dit _ => false | _, .obj _ _ => false | _, .ref _ => false | _, .exc _ _ => false | _, .din _ => false
noncomputable def pds : Nat → List D → Bool
  | _, [] => true
  | k, d :: ds => pd k d && pds k ds
end
noncomputable def inlE (μ : Mu) : Nat → D → Option D
  | _, .non => some .non
  | _, .bl b => some (.bl b)
  | _, .int i => some (.int i)
  | _, .str x => some (.str x)
  | k + 1, .tup ds => (mapO (inlE μ k) ds).map .tup
  | k + 1, .lst ds => (mapO (inlE μ k) ds).map .lst
  | k + 1, .scr ds => (mapO (inlE μ k) ds).map .lst
  | k + 1, .tpz ds => (mapO (inlE μ k) ds).map .tpz
  | k + 1, .ref n => match μ[n]? with
    | some (.lst ds) => (mapO (inlE μ k) ds).map .lst
    | _ => none
  | _, _ => none
noncomputable def vE (μ : Mu) (d : D) : Option D := if pd 20 d then some d else inlE μ 20 d
section
variable {nm : Nm} {X : Cx} {W : XW} {env : Ev} {μ : Mu} {σ : St} {H G : Hp} {ρ : List Addr}
noncomputable def DpK (X : Cx) (H : Hp) (k : Nat) (v : V) (x : PyData) : Prop := Dp X.K H v x ∧ x.canLay0 = true ∧ x.depth ≤ k
theorem DpK.str {y : List Nat} {k : Nat} (o : okS y = true) : DpK X H k (.str (S y)) (.str (S y)) := by
  refine ⟨.str _, ?_, Nat.zero_le _⟩
  show PyData.strOk (S y) = true
  unfold PyData.strOk
  rw [← Array.all_toList, S_cps]
  simp only [List.all_eq_true, decide_eq_true_eq]
  exact fun c hc => okS_mem o hc
theorem DpK.up {k k' : Nat} {v : V} {x : PyData} (h : DpK X H k v x) (l : k ≤ k') : DpK X H k' v x := ⟨h.1, h.2.1, Nat.le_trans h.2.2 l⟩
mutual
theorem pd_ok (R : Rel (ct nm X) G ρ env μ σ H) : ∀ (k : Nat) (d : D) (v : V), rep (ct nm X) G ρ d v → pd k d = true → DpK X H k v (toP d)
  | _, .non, _, h, _ => by cases h; exact ⟨.non, rfl, Nat.zero_le _⟩
  | _, .bl _, _, h, _ => by cases h; exact ⟨.bl _, rfl, Nat.zero_le _⟩
  | _, .int _, _, h, _ => by cases h; exact ⟨.int _, rfl, Nat.zero_le _⟩
  | _, .str _, _, h, _ => by obtain ⟨rfl, o⟩ := h; exact DpK.str o
  | 0, .tup _, _, _, e => by simp [pd] at e
  | k + 1, .tup ds, _, h, e => by
    obtain ⟨a, vs, rfl, q, r⟩ := h
    obtain ⟨a1, a2, a3⟩ := pds_ok R k ds vs r (by simpa [pd] using e)
    exact ⟨.tup (SqT.of (R.sub _ _ q)) a1, a2, by show PyData.depthAll _ + 1 ≤ k + 1; omega⟩
  | 0, .lst _, _, _, e => by simp [pd] at e
  | k + 1, .lst ds, _, h, e => by
    obtain ⟨a, vs, rfl, q, r⟩ := h
    obtain ⟨a1, a2, a3⟩ := pds_ok R k ds vs r (by simpa [pd] using e)
    exact ⟨.lst (SqL.of (R.sub _ _ q)) a1, a2, by show PyData.depthAll _ + 1 ≤ k + 1; omega⟩
  | 0, .scr _, _, _, e => by simp [pd] at e
  | k + 1, .scr ds, _, h, e => by
    obtain ⟨a, vs, rfl, q, r⟩ := h
    obtain ⟨a1, a2, a3⟩ := pds_ok R k ds vs r (by simpa [pd] using e)
    exact ⟨.lst (R.sub.seq q) a1, a2, by show PyData.depthAll _ + 1 ≤ k + 1; omega⟩
  | 0, .tpz _, _, _, e => by simp [pd] at e
  | k + 1, .tpz ds, _, h, e => by
    obtain ⟨a, vs, rfl, ⟨o, q, _⟩, r⟩ := h
    obtain ⟨a1, a2, a3⟩ := pds_ok R k ds vs r (by simpa [pd] using e)
    exact ⟨.tup (.inl (.inr ⟨o, R.sub _ _ q⟩)) a1, a2, by show PyData.depthAll _ + 1 ≤ k + 1; omega⟩
  | _, .exc _ _, _, _, e => by simp [pd] at e
  | _, .dic _, _, _, e => by simp [pd] at e
  | _, .dit _, _, _, e => by simp [pd] at e
  | _, .obj _ _, _, _, e => by simp [pd] at e
  | _, .ref _, _, _, e => by simp [pd] at e
theorem pds_ok (R : Rel (ct nm X) G ρ env μ σ H) : ∀ (k : Nat) (ds : List D) (vs : List V), reps (ct nm X) G ρ ds vs → pds k ds = true → DpAll X.K H vs (toPs ds) ∧ PyData.canLayAll0 (toPs ds) = true ∧ PyData.depthAll (toPs ds) ≤ k
  | _, [], _, h, _ => by cases h; exact ⟨.nil, rfl, Nat.zero_le _⟩
  | k, d :: ds, _, ⟨v, r, e1, h1, h2⟩, e => by
    subst e1
    simp only [pds, Bool.and_eq_true] at e
    obtain ⟨a1, a2, a3⟩ := pd_ok R k d v h1 e.1
    obtain ⟨b1, b2, b3⟩ := pds_ok R k ds r h2 e.2
    refine ⟨.cons a1 b1, ?_, ?_⟩
    · show ((toP d).canLay0 && PyData.canLayAll0 (toPs ds)) = true
      rw [a2, b2]; rfl
    · show max (toP d).depth (PyData.depthAll (toPs ds)) ≤ k
      omega
end
theorem inlEs_ok {k : Nat} (ih : ∀ d v d', rep (ct nm X) G ρ d v → inlE μ k d = some d' → DpK X H k v (toP d')) :
    ∀ (ds : List D) (vs : List V) (xs : List D), reps (ct nm X) G ρ ds vs → mapO (inlE μ k) ds = some xs → DpAll X.K H vs (toPs xs) ∧ PyData.canLayAll0 (toPs xs) = true ∧ PyData.depthAll (toPs xs) ≤ k
  | [], _, xs, h, e => by
    cases h
    cases e
    exact ⟨.nil, rfl, Nat.zero_le _⟩
  | d :: ds, _, xs, ⟨v, r, e1, h1, h2⟩, e => by
    subst e1
    unfold mapO at e
    split at e
    · rename_i x xs' ex exs
      cases e
      obtain ⟨a1, a2, a3⟩ := ih d v x h1 ex
      obtain ⟨b1, b2, b3⟩ := inlEs_ok ih ds r xs' h2 exs
      refine ⟨.cons a1 b1, ?_, ?_⟩
      · show ((toP x).canLay0 && PyData.canLayAll0 (toPs xs')) = true
        rw [a2, b2]; rfl
      · show max (toP x).depth (PyData.depthAll (toPs xs')) ≤ k
        omega
    · cases e
theorem inlE_ok (R : Rel (ct nm X) G ρ env μ σ H) : ∀ (k : Nat) (d : D) (v : V) (d' : D), rep (ct nm X) G ρ d v → inlE μ k d = some d' → DpK X H k v (toP d') := by
  intro k
  induction k with
  | zero =>
    intro d v d' h e
    cases d with
    | non => cases e; cases h; exact ⟨.non, rfl, Nat.zero_le _⟩
    | bl b => cases e; cases h; exact ⟨.bl b, rfl, Nat.zero_le _⟩
    | int i => cases e; cases h; exact ⟨.int i, rfl, Nat.zero_le _⟩
    | str y => cases e; obtain ⟨rfl, o⟩ := h; exact DpK.str o
    | _ => cases e
  | succ k ih =>
    intro d v d' h e
    cases d with
    | non => cases e; cases h; exact ⟨.non, rfl, Nat.zero_le _⟩
    | bl b => cases e; cases h; exact ⟨.bl b, rfl, Nat.zero_le _⟩
    | int i => cases e; cases h; exact ⟨.int i, rfl, Nat.zero_le _⟩
    | str y => cases e; obtain ⟨rfl, o⟩ := h; exact DpK.str o
    | tup ds =>
      obtain ⟨a, vs, rfl, q, r⟩ := tup_H R h
      simp only [inlE, Option.map_eq_some_iff] at e
      obtain ⟨xs, e1, rfl⟩ := e
      obtain ⟨a1, a2, a3⟩ := inlEs_ok ih ds vs xs r e1
      exact ⟨.tup q a1, a2, by show PyData.depthAll _ + 1 ≤ k + 1; omega⟩
    | lst ds =>
      obtain ⟨a, vs, rfl, q, r⟩ := lof_ok R h (show lof (.lst ds) μ = some ds from rfl)
      simp only [inlE, Option.map_eq_some_iff] at e
      obtain ⟨xs, e1, rfl⟩ := e
      obtain ⟨a1, a2, a3⟩ := inlEs_ok ih ds vs xs r e1
      exact ⟨.lst q a1, a2, by show PyData.depthAll _ + 1 ≤ k + 1; omega⟩
    | scr ds =>
      obtain ⟨a, vs, rfl, q, r⟩ := lof_ok R h (show lof (.scr ds) μ = some ds from rfl)
      simp only [inlE, Option.map_eq_some_iff] at e
      obtain ⟨xs, e1, rfl⟩ := e
      obtain ⟨a1, a2, a3⟩ := inlEs_ok ih ds vs xs r e1
      exact ⟨.lst q a1, a2, by show PyData.depthAll _ + 1 ≤ k + 1; omega⟩
    | ref n =>
      unfold inlE at e
      split at e
      · rename_i ds e2
        obtain ⟨a, vs, rfl, _, q, r⟩ := cell_lst R h e2
        simp only [Option.map_eq_some_iff] at e
        obtain ⟨xs, e1, rfl⟩ := e
        obtain ⟨a1, a2, a3⟩ := inlEs_ok ih ds vs xs r e1
        exact ⟨.lst (SqL.of q) a1, a2, by show PyData.depthAll _ + 1 ≤ k + 1; omega⟩
      · cases e
    | tpz ds =>
      obtain ⟨a, vs, rfl, ⟨o, q, _⟩, r⟩ := h
      simp only [inlE, Option.map_eq_some_iff] at e
      obtain ⟨xs, e1, rfl⟩ := e
      obtain ⟨a1, a2, a3⟩ := inlEs_ok ih ds vs xs r e1
      exact ⟨.tup (.inl (.inr ⟨o, R.sub _ _ q⟩)) a1, a2, by show PyData.depthAll _ + 1 ≤ k + 1; omega⟩
    | exc _ _ => cases e
    | din _ => exact h.elim
    | dic _ => cases e
    | dit _ => cases e
    | obj _ _ => cases e
theorem vE_ok (R : Rel (ct nm X) G ρ env μ σ H) {d : D} {v : V} {d' : D} (h : rep (ct nm X) G ρ d v) (e : vE μ d = some d') : DpK X H 20 v (toP d') := by
  unfold vE at e
  split at e
  · rename_i hp
    cases e
    exact pd_ok R 20 d v h hp
  · exact inlE_ok R 20 d v d' h e
theorem DpK.shaped {k : Nat} {v : V} {x : PyData} (h : DpK X H k v x) (hk : k ≤ 60) : SeqAt.shaped x = true := by
  obtain ⟨a, b, c⟩ := h
  unfold SeqAt.shaped
  rw [b, Bool.true_and, decide_eq_true_eq]
  omega
end
noncomputable def beqD (a b : D) : Bool := PyData.eqv (toP a) (toP b)
noncomputable def dEqB (a b : D) (μ : Mu) : Option Bool := match vE μ a, vE μ b with
  | some x, some y => some (beqD x y)
  | _, _ => none
noncomputable def ofB (o : Option Bool) (μ : Mu) : Res (D × Mu) := match o with
  | some b => .ok (.bl b, μ)
  | none => .no
noncomputable def dEq : F2 := fun a b μ => ofB (dEqB a b μ) μ
noncomputable def dNe : F2 := fun a b μ => ofB ((dEqB a b μ).map not) μ
section
variable {nm : Nm} {X : Cx} {W : XW}
theorem beq_S {x y : List Nat} : (S x == S y) = decide (x = y) := by
  rw [Bool.eq_iff_iff, beq_iff_eq, decide_eq_true_eq]
  exact ⟨S_inj, fun h => by rw [h]⟩
theorem dEqB_ok {env : Ev} {μ : Mu} {σ : St} {H G : Hp} {ρ : List Addr} (R : Rel (ct nm X) G ρ env μ σ H) {a b : D} {v w : V} {k : Bool} (h1 : rep (ct nm X) G ρ a v) (h2 : rep (ct nm X) G ρ b w) (e : dEqB a b μ = some k) :
    ∃ x y, Dp X.K H v x ∧ Dp X.K H w y ∧ SeqAt.shaped x = true ∧ SeqAt.shaped y = true ∧ PyData.eqv x y = k := by
  unfold dEqB at e
  split at e
  · rename_i x y e1 e2
    cases e
    have A := vE_ok R h1 e1
    have B := vE_ok R h2 e2
    exact ⟨_, _, A.1, B.1, A.shaped (by decide), B.shaped (by decide), rfl⟩
  · cases e
theorem op2_eq : Op2 nm X W dEq (rEqD X.K) := by
  intro env μ σ H ρ G Q d1 d2 v1 v2 R r1 r2 P
  unfold dEq ofB at P
  split at P
  · rename_i k e
    obtain ⟨x, y, a1, b1, a2, b2, e2⟩ := dEqB_ok R r1 r2 e
    exact ⟨x, y, a1, b1, a2, b2, by rw [e2]; exact P _ H ρ G .refl R rfl⟩
  · exact P.elim
theorem op2_ne : Op2 nm X W dNe (rNeD X.K) := by
  intro env μ σ H ρ G Q d1 d2 v1 v2 R r1 r2 P
  unfold dNe ofB at P
  split at P
  · rename_i k e
    cases e1 : dEqB d1 d2 μ with
    | none => rw [e1] at e; cases e
    | some k' =>
      rw [e1] at e
      cases e
      obtain ⟨x, y, a1, b1, a2, b2, e2⟩ := dEqB_ok R r1 r2 e1
      exact ⟨x, y, a1, b1, a2, b2, by rw [e2]; exact P _ H ρ G .refl R rfl⟩
  · exact P.elim
end
end Lr
namespace Lr
open PySem L2 PySem.Spec
open PyProof.Rows hiding St
noncomputable def ltL : List Nat → List Nat → Bool := fun x y => decide (x < y)
noncomputable def ltD (a b : D) : Bool := PySem.W.dataLt (toP a) (toP b)
noncomputable def okLt (a b : D) : Bool := PySem.W.alike (toP a) (toP b) && (match a with | .tup _ => true | .lst _ => true | .scr _ => true | .int _ => true | .str _ => true | .bl _ => true | _ => false)
noncomputable def dCmp (f : Int → Int → Bool) (g : List Nat → List Nat → Bool) (h : D → D → Bool) : F2 := fun a b μ => match a, b with
  | .int i, .int j => .ok (.bl (f i j), μ)
  | .str x, .str y => .ok (.bl (g x y), μ)
  | a, b => match vE μ a, vE μ b with
    | some x, some y => if okLt x y then .ok (.bl (h x y), μ) else .no
    | _, _ => .no
noncomputable def dLt : F2 := dCmp (fun i j => decide (i < j)) (fun x y => ltL x y) ltD
noncomputable def dLe : F2 := dCmp (fun i j => decide (i ≤ j)) (fun x y => !ltL y x) (fun x y => !ltD y x)
noncomputable def dGt : F2 := dCmp (fun i j => decide (j < i)) (fun x y => ltL y x) (fun x y => ltD y x)
noncomputable def dGe : F2 := dCmp (fun i j => decide (j ≤ i)) (fun x y => !ltL x y) (fun x y => !ltD x y)
section
variable {nm : Nm} {X : Cx} {W : XW}
noncomputable def rCmpD (X : Cx) (h : PyData → PyData → Bool) : R2 := fun x y H Q => ∃ d e, Dp X.K H x d ∧ Dp X.K H y e ∧ PySem.W.alike d e = true ∧ d ≠ .none ∧ min d.depth e.depth ≤ 20 ∧ Q (.bl (h d e)) H
theorem op_ltD (hu : X.A.units + 64 < cLine) : OpR X (compareOp .Lt) (rCmpD X fun d e => PySem.W.dataLt d e) := by
  intro pins s σ H x y v u Q I rx ry h
  obtain ⟨d, e, hd, he, ha, hn, hk, q⟩ := h
  obtain ⟨as, r1⟩ := Dp.reads I d x v hd rx
  obtain ⟨bs, r2⟩ := Dp.reads I e y u he ry
  exact PySem.W.lt_data r1 r2 ha hn (by omega) ⟨.bl _, H, I, rfl, q⟩
noncomputable def rCmpA (X : Cx) (f : Int → Int → Bool) (g : List Nat → List Nat → Bool) (h : PyData → PyData → Bool) : R2 := fun x y H Q => ((rI0 fun i j => .bl (f i j)) x y H Q ∨ (∃ i j, x = .str i ∧ y = .str j ∧ Q (.bl (g i.cps.toList j.cps.toList)) H)) ∨ rCmpD X h x y H Q
theorem opr_lt (hu : X.A.units + 64 < cLine) : OpR X (compareOp .Lt) (rCmpA X (fun i j => decide (i < j)) (fun x y => ltL x y) fun d e => PySem.W.dataLt d e) := (op_lt.or op_lt_str).or (op_ltD hu)
theorem op2_cmp {f : Int → Int → Bool} {g : List Nat → List Nat → Bool} {h : D → D → Bool} {k : PyData → PyData → Bool} (hk : ∀ a b, h a b = k (toP a) (toP b)) : Op2 nm X W (dCmp f g h) (rCmpA X f g k) := by
  intro env μ σ H ρ G Q d1 d2 v1 v2 R r1 r2 P
  unfold dCmp at P
  split at P
  · cases r1; cases r2
    exact .inl (.inl ⟨_, _, rfl, rfl, P _ H ρ G .refl R rfl⟩)
  · obtain ⟨rfl, _⟩ := r1
    obtain ⟨rfl, _⟩ := r2
    exact .inl (.inr ⟨_, _, rfl, rfl, by rw [S_cps, S_cps]; exact P _ H ρ G .refl R rfl⟩)
  · split at P
    · rename_i x y e1 e2
      split at P
      · rename_i hz
        unfold okLt at hz
        rw [Bool.and_eq_true] at hz
        have A := vE_ok R r1 e1
        have B := vE_ok R r2 e2
        refine .inr ⟨_, _, A.1, B.1, hz.1, ?_, by have := A.2.2; omega, by rw [← hk]; exact P _ H ρ G .refl R rfl⟩
        have hz2 := hz.2
        intro e
        cases x <;> simp [toP] at e hz2
      · exact P.elim
    · exact P.elim
theorem op2_lt : Op2 nm X W dLt (rCmpA X (fun i j => decide (i < j)) (fun x y => ltL x y) fun d e => PySem.W.dataLt d e) := op2_cmp fun _ _ => rfl
end
noncomputable def cCh (f g : F2) (a b c : M) : M := fun env μ => (a env μ).bind fun x => (b env x.2).bind fun y => (f x.1 y.1 y.2).bind fun z => match z.1 with
  | .bl true => (c env z.2).bind fun w => g y.1 w.1 w.2
  | .bl false => .ok (.bl false, z.2)
  | _ => .no
section
variable {nm : Nm} {X : Cx} {W : XW} {a b c : Expr} {pos : Pos} {ma mb mc : M}
end
noncomputable def dof (d : D) (μ : Mu) : Option D := match d with
  | .dic kvs => some (.dic kvs)
  | .dit kvs => some (.dit kvs)
  | .ref n => match μ[n]? with
    | some (.dic kvs) => some (.dic kvs)
    | some (.dit kvs) => some (.dit kvs)
    | _ => none
  | _ => none
noncomputable def kEq (a b : D) : Bool := match a, b with
  | .int i, .int j => decide (i = j)
  | .str x, .str y => decide (x = y)
  | _, _ => match keyT a, keyT b with
    | some x, some y => decide (x = y)
    | _, _ => false
noncomputable def look (kvs : List (D × D)) (k : D) : Option D := (kvs.find? fun p => kEq p.1 k).map (·.2)
noncomputable def isK (d : D) : Bool := match d with
  | .int _ => true
  | .str _ => true
  | _ => false
noncomputable def dLook (d k : D) : Option (Option D) := match d with
  | .dic kvs => if isK k then some (look kvs k) else none
  | .dit kvs => if (keyT k).isSome then some (look kvs k) else none
  | _ => none
section
variable {t : Ct} {G H : Hp} {ρ : List Addr}
theorem keyOf_eq {a b : D} {x y : Key} (h1 : keyOf a = some x) (h2 : keyOf b = some y) : kEq a b = decide (x = y) := by
  cases a <;> simp [keyOf] at h1 <;> cases b <;> simp [keyOf] at h2 <;> subst h1 h2 <;> unfold kEq
  · rw [Bool.eq_iff_iff]; simp
  · simp [keyT]
  · simp [keyT]
  · rw [Bool.eq_iff_iff]; simp only [decide_eq_true_eq, Sum.inr.injEq]
    exact ⟨fun h => by rw [h], S_inj⟩
theorem keyT_eq {a b : D} {x y : List Key} (h1 : keyT a = some x) (h2 : keyT b = some y) : kEq a b = decide (x = y) := by
  cases a <;> simp [keyT] at h1
  unfold kEq
  cases b <;> simp [keyT] at h2
  simp [keyT, h1, h2]
theorem look_k {k : D} {k' : Key} (hk : keyOf k = some k') : ∀ {kvs : List (D × D)} {ks : List (Key × V)}, repk t G ρ kvs ks → (∀ d, look kvs k = some d → ∃ v, valV ks k' = some v ∧ rep t G ρ d v) ∧ (look kvs k = none → valV ks k' = none)
  | [], _, h => by cases h; exact ⟨fun d e => by simp [look] at e, fun _ => rfl⟩
  | (a, d) :: r, _, ⟨x, v, r', e, hx, h1, h2⟩ => by
    subst e
    have ih := look_k hk h2
    have hq := keyOf_eq hx hk
    unfold look at ih ⊢
    by_cases c : x = k'
    · rw [List.find?_cons_of_pos (by rw [hq]; exact decide_eq_true c)]
      refine ⟨fun d' e => ?_, fun e => by cases e⟩
      cases e
      exact ⟨v, valV_pos c, h1⟩
    · rw [List.find?_cons_of_neg (by rw [hq]; simpa using c), valV_neg c]
      exact ih
theorem look_t {k : D} {k' : List Key} (hk : keyT k = some k') : ∀ {kvs : List (D × D)} {ks : List (List Key × V)}, repkT t G ρ kvs ks → (∀ d, look kvs k = some d → ∃ v, valV ks k' = some v ∧ rep t G ρ d v) ∧ (look kvs k = none → valV ks k' = none)
  | [], _, h => by cases h; exact ⟨fun d e => by simp [look] at e, fun _ => rfl⟩
  | (a, d) :: r, _, ⟨x, v, r', e, hx, h1, h2⟩ => by
    subst e
    have ih := look_t hk h2
    have hq := keyT_eq hx hk
    unfold look at ih ⊢
    by_cases c : x = k'
    · rw [List.find?_cons_of_pos (by rw [hq]; exact decide_eq_true c)]
      refine ⟨fun d' e => ?_, fun e => by cases e⟩
      cases e
      exact ⟨v, valV_pos c, h1⟩
    · rw [List.find?_cons_of_neg (by rw [hq]; simpa using c), valV_neg c]
      exact ih
theorem rep_key {k : D} {v : V} (r : rep t G ρ k v) (h : isK k = true) : ∃ k', keyOf k = some k' ∧ v = kV k' := by
  cases k <;> simp [isK] at h
  · cases r; exact ⟨_, rfl, rfl⟩
  · obtain ⟨rfl, _⟩ := r; exact ⟨_, rfl, rfl⟩
theorem reps_keys : ∀ {ds : List D} {vs : List V} {ks : List Key}, reps t G ρ ds vs → keysOfL ds = some ks → vs = ks.map kV
  | [], _, _, r, e => by cases r; cases e; rfl
  | d :: ds, _, ks, ⟨v, r, e1, h1, h2⟩, e => by
    subst e1
    unfold keysOfL at e
    split at e
    · rename_i k ks' ek eks
      cases e
      rw [List.map_cons, reps_keys h2 eks]
      have : isK d = true := by cases d <;> simp [keyOf] at ek <;> rfl
      obtain ⟨k', e1, e2⟩ := rep_key h1 this
      rw [e1] at ek; cases ek
      rw [e2]
    · cases e
end
section
variable {nm : Nm} {X : Cx} {W : XW} {env : Ev} {μ : Mu} {σ : St} {H G : Hp} {ρ : List Addr}
theorem rep_keyT (R : Rel (ct nm X) G ρ env μ σ H) {k : D} {v : V} {k' : List Key} (r : rep (ct nm X) G ρ k v) (h : keyT k = some k') : ∃ b, v = .ref b ∧ H b = some (.tup (k'.map kV)) := by
  cases k <;> simp [keyT] at h
  obtain ⟨a, vs, rfl, q, rs⟩ := tup_T R r
  exact ⟨a, rfl, by rw [q, reps_keys rs h]⟩
theorem dLook_ok (R : Rel (ct nm X) G ρ env μ σ H) {d k dd : D} {v w : V} {o : Option D} (r1 : rep (ct nm X) G ρ d v) (r2 : rep (ct nm X) G ρ k w) (e1 : dof d μ = some dd) (e2 : dLook dd k = some o) :
    ∃ a ov, v = .ref a ∧ DGet H a w ov ∧ ov.isSome = o.isSome ∧ ∀ x, o = some x → ∃ y, ov = some y ∧ rep (ct nm X) G ρ x y := by
  have key : ∀ {kvs : List (D × D)} {ks : List (Key × V)} {a : Addr}, Rd H a (.dK ks) → repk (ct nm X) G ρ kvs ks → dLook (.dic kvs) k = some o → ∃ ov, DGet H a w ov ∧ ov.isSome = o.isSome ∧ ∀ x, o = some x → ∃ y, ov = some y ∧ rep (ct nm X) G ρ x y := fun {kvs ks a} h rk e => by
    unfold dLook at e
    dsimp only at e
    split at e
    · rename_i hk
      cases e
      obtain ⟨k', q1, rfl⟩ := rep_key r2 hk
      obtain ⟨l1, l2⟩ := look_k q1 rk
      refine ⟨valV ks k', .inl ⟨ks, k', h, rfl, rfl⟩, ?_, l1⟩
      cases q : look kvs k with
      | none => rw [l2 q]; rfl
      | some x => obtain ⟨y, e, _⟩ := l1 x q; rw [e]; rfl
    · cases e
  have keyt : ∀ {kvs : List (D × D)} {ks : List (List Key × V)} {a : Addr}, H a = some (.dT ks) → repkT (ct nm X) G ρ kvs ks → dLook (.dit kvs) k = some o → ∃ ov, DGet H a w ov ∧ ov.isSome = o.isSome ∧ ∀ x, o = some x → ∃ y, ov = some y ∧ rep (ct nm X) G ρ x y := fun {kvs ks a} h rk e => by
    unfold dLook at e
    dsimp only at e
    split at e
    · rename_i hk
      cases e
      obtain ⟨k', q1⟩ := Option.isSome_iff_exists.mp hk
      obtain ⟨b, rfl, hb⟩ := rep_keyT R r2 q1
      obtain ⟨l1, l2⟩ := look_t q1 rk
      refine ⟨valV ks k', DGet.t h hb, ?_, l1⟩
      cases q : look kvs k with
      | none => rw [l2 q]; rfl
      | some x => obtain ⟨y, e, _⟩ := l1 x q; rw [e]; rfl
    · cases e
  unfold dof at e1
  split at e1
  · cases e1
    obtain ⟨a, ks, rfl, q, rk⟩ := r1
    obtain ⟨ov, h⟩ := key (Same.rd R.sub q) rk e2
    exact ⟨a, ov, rfl, h⟩
  · cases e1
    obtain ⟨a, ks, rfl, q, rk⟩ := r1
    obtain ⟨ov, h⟩ := keyt (R.sub _ _ q) rk e2
    exact ⟨a, ov, rfl, h⟩
  · rename_i n
    obtain ⟨a, e3, rfl⟩ := r1
    split at e1
    · rename_i kvs q
      cases e1
      obtain ⟨ks, q2, rk⟩ := R.cells n a _ e3 q
      obtain ⟨ov, h⟩ := key (Rd.of q2) rk e2
      exact ⟨a, ov, rfl, h⟩
    · rename_i kvs q
      cases e1
      obtain ⟨ks, q2, rk⟩ := R.cells n a _ e3 q
      obtain ⟨ov, h⟩ := keyt q2 rk e2
      exact ⟨a, ov, rfl, h⟩
    · cases e1
  · cases e1
end
noncomputable def inL (a : D) (ds : List D) (μ : Mu) : Option Bool := match vE μ a, mapO (vE μ) ds with
  | some x, some xs => some (xs.any fun z => beqD z x)
  | _, _ => none
noncomputable def dInB (a b : D) (μ : Mu) : Option Bool := match b with
  | .str z => match a with
    | .str [c] => some (decide (c ∈ z))
    | .str x => some (!(Builtin.Str.occurrences (S z) (S x) 0 z.length 1).isEmpty)
    | _ => none
  | .tup ds => inL a ds μ
  | b => match lof b μ with
    | some ds => inL a ds μ
    | none => match dof b μ with
      | some dd => (dLook dd a).map (·.isSome)
      | none => none
noncomputable def dIn : F2 := fun a b μ => ofB (dInB a b μ) μ
noncomputable def dNotIn : F2 := fun a b μ => ofB ((dInB a b μ).map not) μ
noncomputable def dIs : F2 := fun a b μ => match a, b with
  | x, .non => .ok (.bl (match x with | .non => true | _ => false), μ)
  | .bl x, .bl y => .ok (.bl (decide (x = y)), μ)
  | _, _ => .no
noncomputable def dIsNot : F2 := fun a b μ => match a, b with
  | x, .non => .ok (.bl (match x with | .non => false | _ => true), μ)
  | .bl x, .bl y => .ok (.bl (!decide (x = y)), μ)
  | _, _ => .no
section
variable {nm : Nm} {X : Cx} {W : XW}
noncomputable def rInT (X : Cx) (f : Bool → Bool) : R2 := fun x y H Q => ∃ d ds, Dp X.K H x d ∧ Dp X.K H y (.tuple ds) ∧ SeqAt.shaped d = true ∧ SeqAt.shaped (.tuple ds) = true ∧ Q (.bl (f (ds.any fun z => PyData.eqv z d))) H
theorem op_inT (hu : X.A.units + 65 < cLine) : OpR X (compareOp .In) (rInT X id) := by
  intro pins s σ H x y v u Q I rx ry h
  obtain ⟨d, ds, hd, he, sd, se, q⟩ := h
  obtain ⟨as, r1⟩ := Dp.reads I d x v hd rx
  obtain ⟨bs, r2⟩ := Dp.reads I (.tuple ds) y u he ry
  exact SeqAt.in_tuple_reads r2 r1 (SeqAt.canLay_of_shaped se) (SeqAt.canLay_of_shaped sd) (PyProof.Rows.room_in_shaped sd hu) ⟨.bl _, H, I, rfl, q⟩
theorem op_notInT (hu : X.A.units + 65 < cLine) : OpR X (compareOp .NotIn) (rInT X not) := by
  intro pins s σ H x y v u Q I rx ry h
  obtain ⟨d, ds, hd, he, sd, se, q⟩ := h
  obtain ⟨as, r1⟩ := Dp.reads I d x v hd rx
  obtain ⟨bs, r2⟩ := Dp.reads I (.tuple ds) y u he ry
  exact SeqAt.notIn_tuple_reads r2 r1 (SeqAt.canLay_of_shaped se) (SeqAt.canLay_of_shaped sd) (PyProof.Rows.room_in_shaped sd hu) ⟨.bl _, H, I, rfl, q⟩
noncomputable def rInDc (f : Bool → Bool) : R2 := fun x y H Q => ∃ a ov, y = .ref a ∧ DGet H a x ov ∧ Q (.bl (f ov.isSome)) H
theorem op_inDc (hu : X.A.units + 65 < cLine) : OpR X (compareOp .In) (rInDc id) := by
  intro pins s σ H x y v u Q I rx ry h
  obtain ⟨a, ov, rfl, g, q⟩ := h
  cases ry
  exact d_in (by omega) I g rx fun s' I' => ⟨.bl _, H, I', rfl, q⟩
theorem op_notInDc (hu : X.A.units + 65 < cLine) : OpR X (compareOp .NotIn) (rInDc not) := by
  intro pins s σ H x y v u Q I rx ry h
  obtain ⟨a, ov, rfl, g, q⟩ := h
  cases ry
  exact d_notIn (by omega) I g rx fun s' I' => ⟨.bl _, H, I', rfl, q⟩
noncomputable def rInS (f : Bool → Bool) : R2 := fun x y H Q => ((∃ (c : Nat) (z : Str), x = .str ⟨#[c]⟩ ∧ y = .str z ∧ Q (.bl (f (decide (c ∈ z.cps.toList)))) H) ∨
  (∃ i j, x = .str i ∧ y = .str j ∧ Q (.bl (f (!(Builtin.Str.occurrences j i 0 j.length 1).isEmpty))) H))
noncomputable def rInA (X : Cx) : R2 := fun x y H Q => rInS id x y H Q ∨ (rInD X.K x y H Q ∨ rInT X id x y H Q) ∨ rInDc id x y H Q
theorem opr_in (hu : X.A.units + 65 < cLine) : OpR X (compareOp .In) (rInA X) := (op_in_sign.or op_in_str).or (((op_inD hu).or (op_inT hu)).or (op_inDc hu))
noncomputable def rNotInA (X : Cx) : R2 := fun x y H Q => rInS not x y H Q ∨ (rNotInD X.K x y H Q ∨ rInT X not x y H Q) ∨ rInDc not x y H Q
theorem opr_notIn (hu : X.A.units + 65 < cLine) : OpR X (compareOp .NotIn) (rNotInA X) := (op_notIn_sign.or op_notIn_str).or (((op_notInD hu).or (op_notInT hu)).or (op_notInDc hu))
theorem S_one (c : Nat) : S [c] = ⟨#[c]⟩ := rfl
theorem vEs_ok {env : Ev} {μ : Mu} {σ : St} {H G : Hp} {ρ : List Addr} (R : Rel (ct nm X) G ρ env μ σ H) : ∀ {ds : List D} {vs : List V} {xs : List D}, reps (ct nm X) G ρ ds vs → mapO (vE μ) ds = some xs → DpAll X.K H vs (toPs xs) ∧ PyData.canLayAll0 (toPs xs) = true ∧ PyData.depthAll (toPs xs) ≤ 20
  | [], _, xs, h, e => by
    cases h
    cases e
    exact ⟨.nil, rfl, Nat.zero_le _⟩
  | d :: ds, _, xs, ⟨v, r, e1, h1, h2⟩, e => by
    subst e1
    unfold mapO at e
    split at e
    · rename_i x xs' ex exs
      cases e
      obtain ⟨a1, a2, a3⟩ := vE_ok R h1 ex
      obtain ⟨b1, b2, b3⟩ := vEs_ok R h2 exs
      refine ⟨.cons a1 b1, ?_, ?_⟩
      · show ((toP x).canLay0 && PyData.canLayAll0 (toPs xs')) = true
        rw [a2, b2]; rfl
      · show max (toP x).depth (PyData.depthAll (toPs xs')) ≤ 20
        omega
    · cases e
theorem any_toPs (x : D) : ∀ xs : List D, ((toPs xs).any fun z => PyData.eqv z (toP x)) = xs.any fun z => beqD z x
  | [] => rfl
  | y :: ys => by
    show (PyData.eqv (toP y) (toP x) || (toPs ys).any fun z => PyData.eqv z (toP x)) = _
    rw [any_toPs x ys]; rfl
theorem dInB_ok {env : Ev} {μ : Mu} {σ : St} {H G : Hp} {ρ : List Addr} (R : Rel (ct nm X) G ρ env μ σ H) {a b : D} {v w : V} {k : Bool} (h1 : rep (ct nm X) G ρ a v) (h2 : rep (ct nm X) G ρ b w) (e : dInB a b μ = some k) :
    ((∃ (c : Nat) (z : Str), v = .str ⟨#[c]⟩ ∧ w = .str z ∧ decide (c ∈ z.cps.toList) = k) ∨ (∃ i j, v = .str i ∧ w = .str j ∧ (!(Builtin.Str.occurrences j i 0 j.length 1).isEmpty) = k)) ∨
    ((∃ d ds, Dp X.K H v d ∧ Dp X.K H w (.list ds) ∧ SeqAt.shaped d = true ∧ SeqAt.shaped (.list ds) = true ∧ (ds.any fun z => PyData.eqv z d) = k) ∨
    (∃ d ds, Dp X.K H v d ∧ Dp X.K H w (.tuple ds) ∧ SeqAt.shaped d = true ∧ SeqAt.shaped (.tuple ds) = true ∧ (ds.any fun z => PyData.eqv z d) = k)) ∨
    (∃ a ov, w = .ref a ∧ DGet H a v ov ∧ ov.isSome = k) := by
  have seqL : ∀ {ds : List D} {p : Addr} {vs : List V}, w = .ref p → SqL X.K H p vs → reps (ct nm X) G ρ ds vs → inL a ds μ = some k → ∃ d es, Dp X.K H v d ∧ Dp X.K H w (.list es) ∧ SeqAt.shaped d = true ∧ SeqAt.shaped (.list es) = true ∧ (es.any fun z => PyData.eqv z d) = k := fun {ds p vs} ew q r e => by
    subst ew
    unfold inL at e
    split at e
    · rename_i x xs e1 e2
      cases e
      have A := vE_ok R h1 e1
      obtain ⟨b1, b2, b3⟩ := vEs_ok R r e2
      refine ⟨_, _, A.1, .lst q b1, A.shaped (by decide), DpK.shaped (X := X) (H := H) (v := .ref p) (k := 21) ⟨.lst q b1, b2, ?_⟩ (by decide), any_toPs x xs⟩
      show PyData.depthAll _ + 1 ≤ 21
      omega
    · cases e
  have seqT : ∀ {ds : List D} {p : Addr} {vs : List V}, w = .ref p → SqT X.K H p vs → reps (ct nm X) G ρ ds vs → inL a ds μ = some k → ∃ d es, Dp X.K H v d ∧ Dp X.K H w (.tuple es) ∧ SeqAt.shaped d = true ∧ SeqAt.shaped (.tuple es) = true ∧ (es.any fun z => PyData.eqv z d) = k := fun {ds p vs} ew q r e => by
    subst ew
    unfold inL at e
    split at e
    · rename_i x xs e1 e2
      cases e
      have A := vE_ok R h1 e1
      obtain ⟨b1, b2, b3⟩ := vEs_ok R r e2
      refine ⟨_, _, A.1, .tup q b1, A.shaped (by decide), DpK.shaped (X := X) (H := H) (v := .ref p) (k := 21) ⟨.tup q b1, b2, ?_⟩ (by decide), any_toPs x xs⟩
      show PyData.depthAll _ + 1 ≤ 21
      omega
    · cases e
  unfold dInB at e
  split at e
  · obtain ⟨rfl, _⟩ := h2
    split at e
    · cases e
      obtain ⟨rfl, _⟩ := h1
      exact .inl (.inl ⟨_, _, by rw [S_one], rfl, by rw [S_cps]⟩)
    · cases e
      obtain ⟨rfl, _⟩ := h1
      exact .inl (.inr ⟨_, _, rfl, rfl, by rw [S_len]⟩)
    · cases e
  · obtain ⟨p, vs, rfl, q, r⟩ := tup_H R h2
    exact .inr (.inl (.inr (seqT rfl q r e)))
  · split at e
    · rename_i e0
      obtain ⟨p, vs, rfl, q, r⟩ := lof_ok R h2 e0
      exact .inr (.inl (.inl (seqL rfl q r e)))
    · split at e
      · rename_i e0
        simp only [Option.map_eq_some_iff] at e
        obtain ⟨o, e1, rfl⟩ := e
        obtain ⟨a, ov, rfl, g, hs, _⟩ := dLook_ok R h2 h1 e0 e1
        exact .inr (.inr ⟨a, ov, rfl, g, hs⟩)
      · cases e
theorem op2_in : Op2 nm X W dIn (rInA X) := by
  intro env μ σ H ρ G Q d1 d2 v1 v2 R r1 r2 P
  unfold dIn ofB at P
  split at P
  · rename_i k e
    have p := P _ H ρ G .refl R rfl
    rcases dInB_ok R r1 r2 e with (⟨c, z, rfl, rfl, q⟩ | ⟨i, j, rfl, rfl, q⟩) | (⟨d, ds, a1, a2, a3, a4, q⟩ | ⟨d, ds, a1, a2, a3, a4, q⟩) | ⟨a, ov, rfl, g, q⟩
    · exact .inl (.inl ⟨c, z, rfl, rfl, by rw [q]; exact p⟩)
    · exact .inl (.inr ⟨i, j, rfl, rfl, by rw [q]; exact p⟩)
    · exact .inr (.inl (.inl ⟨d, ds, a1, a2, a3, a4, by rw [q]; exact p⟩))
    · exact .inr (.inl (.inr ⟨d, ds, a1, a2, a3, a4, by rw [q]; exact p⟩))
    · exact .inr (.inr ⟨a, ov, rfl, g, by rw [q]; exact p⟩)
  · exact P.elim
theorem op2_notIn : Op2 nm X W dNotIn (rNotInA X) := by
  intro env μ σ H ρ G Q d1 d2 v1 v2 R r1 r2 P
  unfold dNotIn ofB at P
  split at P
  · rename_i k e
    have p := P _ H ρ G .refl R rfl
    simp only [Option.map_eq_some_iff] at e
    obtain ⟨k, e, rfl⟩ := e
    rcases dInB_ok R r1 r2 e with (⟨c, z, rfl, rfl, q⟩ | ⟨i, j, rfl, rfl, q⟩) | (⟨d, ds, a1, a2, a3, a4, q⟩ | ⟨d, ds, a1, a2, a3, a4, q⟩) | ⟨a, ov, rfl, g, q⟩
    · exact .inl (.inl ⟨c, z, rfl, rfl, by rw [q]; exact p⟩)
    · exact .inl (.inr ⟨i, j, rfl, rfl, by rw [q]; exact p⟩)
    · exact .inr (.inl (.inl ⟨d, ds, a1, a2, a3, a4, by rw [q]; exact p⟩))
    · exact .inr (.inl (.inr ⟨d, ds, a1, a2, a3, a4, by rw [q]; exact p⟩))
    · exact .inr (.inr ⟨a, ov, rfl, g, by rw [q]; exact p⟩)
  · exact P.elim
end
noncomputable def dIx : F2 := fun a b μ => match a with
  | .str x => match b with
    | .int i => match atI x i with
      | some c => .ok (.str [c], μ)
      | none => .no
    | _ => .no
  | .tup ds => match b with
    | .int i => match atI ds i with
      | some d => .ok (d, μ)
      | none => .no
    | _ => .no
  | .tpz ds => match b with
    | .int i => match atI ds i with
      | some d => .ok (d, μ)
      | none => .no
    | _ => .no
  | a => match lof a μ with
    | some ds => match b with
      | .int i => match atI ds i with
        | some d => .ok (d, μ)
        | none => .no
      | _ => .no
    | none => match dof a μ with
      | some dd => match dLook dd b with
        | some (some d) => .ok (d, μ)
        | _ => .no
      | none => .no
noncomputable def cutL {α : Type} (xs : List α) (lo hi : Option Int) : List α := (xs.drop (HT.sIx xs.length 0 lo)).take (HT.sIx xs.length xs.length hi - HT.sIx xs.length 0 lo)
noncomputable def dSl (fl : Bool) (a : D) (lo hi : Option Int) (μ : Mu) : Res (D × Mu) := match a with
  | .str x => .ok (.str (cutL x lo hi), μ)
  | .tup ds => .ok (.tup (cutL ds lo hi), μ)
  | a => match lof a μ with
    | some ds => .ok (mkL fl (cutL ds lo hi) μ)
    | none => .no
noncomputable def cutK {α : Type} (xs : List α) (lo hi : Option Int) (st : Int) : List α := (Builtin.Str.strSliceIndices lo hi st xs.length).filterMap (xs[·]?)
noncomputable def dSlK (st : Int) (a : D) (lo hi : Option Int) (μ : Mu) : Res (D × Mu) := match a with
  | .str x => .ok (.str (cutK x lo hi st), μ)
  | _ => .no
noncomputable abbrev MO := Ev → Mu → Res (Option Int × Mu)
noncomputable def oNone : MO := fun _ μ => .ok (none, μ)
noncomputable def oSome (a : M) : MO := fun env μ => (a env μ).bind fun x => match x.1 with
  | .int i => .ok (some i, x.2)
  | _ => .no
noncomputable def cSl (fl : Bool) (a : M) (lo hi : MO) : M := fun env μ => (a env μ).bind fun x => (lo env x.2).bind fun l => (hi env l.2).bind fun h => dSl fl x.1 l.1 h.1 h.2
noncomputable def cSlK (st : Int) (a : M) (lo hi : MO) : M := fun env μ => (a env μ).bind fun x => (lo env x.2).bind fun l => (hi env l.2).bind fun h => dSlK st x.1 l.1 h.1 h.2
theorem IxR.or {X : Cx} {r r' : R2} (h : IxR X r) (h' : IxR X r') : IxR X (fun x y H Q => r x y H Q ∨ r' x y H Q) := by
  intro value slice pins s σ H x y v u Q I rx ry q hs
  rcases q with q | q
  · exact h value slice pins s σ H x y v u Q I rx ry q hs
  · exact h' value slice pins s σ H x y v u Q I rx ry q hs
section
variable {nm : Nm} {X : Cx} {W : XW}
noncomputable def rIxD : R2 := fun x y H Q => ∃ a v, x = .ref a ∧ DGet H a y (some v) ∧ Q v H
theorem ix_dict (hu : X.A.units + 65 < cLine) : IxR X rIxD := by
  intro value slice pins s σ H x y v u Q I rx ry h hs
  obtain ⟨a, w, rfl, g, q⟩ := h
  cases rx
  have hT := dict_typeIs I g
  have hg : wpAny (model X.prog X.w) X.A (getItem (.ref a) u) (EP X pins σ Q) X.xe s := d_getItem (by omega) I g ry fun w' s3 I3 rw' => ⟨w, H, I3, rw', q⟩
  unfold subscriptTail
  refine wpAny_bind ?_
  rw [getitemInPython_of_ne hT.not_modules]
  refine wpAny_bind (wpAny_specialOf hT PySem.F.slot_dict_getitem.lookup ?_)
  have fin : wpAny (model X.prog X.w) X.A (subscripted slice false (.ref a) u >>= fun r => letTemporaryGo value (.ref a) r >>= fun _ => pure r) (EP X pins σ Q) X.xe s := by
    rw [hs]
    exact wpAny_bind (wpAny_operating (wpAny_mono hg (fun r s₃ h₃ => wpAny_bind (wpAny_letTemporaryGo (wpAny_pure h₃))) fun _ _ x => x))
  first
    | exact wpAny_pure fin
    | exact fin
    | exact wpAny_bind (wpAny_pure fin)
noncomputable def rIxA (X : Cx) : R2 := fun x y H Q => ((rIxS x y H Q ∨ rIxT X.K x y H Q) ∨ rIxL X.K x y H Q) ∨ rIxD x y H Q
theorem ixr_all (hu : X.A.units + 65 < cLine) : IxR X (rIxA X) := IxR.or (IxR.or (IxR.or ix_str ix_tup) ix_list) (ix_dict hu)
theorem atI_reps {t : Ct} {G : Hp} {ρ : List Addr} {ds : List D} {vs : List V} (h : reps t G ρ ds vs) {i : Int} {d : D} (e : atI ds i = some d) : ∃ v, atI vs i = some v ∧ rep t G ρ d v := by
  unfold atI at e ⊢
  rw [h.length]
  cases q : ixN ds.length i with
  | none => rw [q] at e; cases e
  | some j =>
    rw [q] at e
    exact h.get e
theorem op2_ix : Op2 nm X W dIx (rIxA X) := by
  intro env μ σ H ρ G Q d1 d2 v1 v2 R r1 r2 P
  unfold dIx at P
  split at P
  · obtain ⟨rfl, o⟩ := r1
    split at P
    · cases r2
      split at P
      · rename_i c e
        obtain ⟨j, _, h2, _⟩ := atI_get e
        refine .inl (.inl (.inl ⟨_, _, c, rfl, rfl, by rw [S_len, lineN_eq]; exact okS_len o, by rw [S_cps]; exact e, P _ H ρ G .refl R ⟨rfl, okS_mk (by show 1 ≤ lineN; decide) fun z hz => ?_⟩⟩))
        have hz := List.mem_singleton.mp hz
        subst hz
        exact okS_mem o (List.mem_of_getElem? h2)
      · exact P.elim
    · exact P.elim
  · split at P
    · cases r2
      split at P
      · rename_i d e
        obtain ⟨a, vs, rfl, q, r⟩ := tup_H R r1
        obtain ⟨v, e1, rv⟩ := atI_reps r e
        exact .inl (.inl (.inr ⟨a, vs, _, v, rfl, rfl, q, e1, P _ H ρ G .refl R rv⟩))
      · exact P.elim
    · exact P.elim
  · split at P
    · cases r2
      split at P
      · rename_i d e
        obtain ⟨a, vs, rfl, q, r⟩ := tpz_H R r1
        obtain ⟨v, e1, rv⟩ := atI_reps r e
        exact .inl (.inl (.inr ⟨a, vs, _, v, rfl, rfl, q, e1, P _ H ρ G .refl R rv⟩))
      · exact P.elim
    · exact P.elim
  · split at P
    · rename_i e0
      split at P
      · cases r2
        split at P
        · rename_i d e
          obtain ⟨a, vs, rfl, q, r⟩ := lof_ok R r1 e0
          obtain ⟨v, e1, rv⟩ := atI_reps r e
          exact .inl (.inr ⟨a, vs, _, v, rfl, rfl, q, e1, P _ H ρ G .refl R rv⟩)
        · exact P.elim
      · exact P.elim
    · split at P
      · rename_i e0
        split at P
        · rename_i d e1
          obtain ⟨a, ov, rfl, g, _, h⟩ := dLook_ok R r1 r2 e0 e1
          obtain ⟨y, rfl, ry⟩ := h d rfl
          exact .inr ⟨a, y, rfl, g, P _ H ρ G .refl R ry⟩
        · exact P.elim
      · exact P.elim
variable {a b : Expr} {pos p2 : Pos} {ma mb : M} {lo hi : Option Expr} {ml mh : MO}
theorem ev_ix (hu : X.A.units + 65 < cLine) (ha : EV nm X W a ma) (hb : EV nm X W b mb) (hs : PlainIx b := by exact fun _ _ => rfl) : EV nm X W (.Subscript a b pos) (cB dIx ma mb) :=
  ev_of (pe_ix (ixr_all hu) pe_wp pe_wp hs) fun env μ σ H ρ G Q R P => bin_run ha hb op2_ix R P
noncomputable def wpO (X : Cx) (e : Option Expr) : TO := fun σ H Q => ∀ pins s, Inv X pins σ H s → wpAny (model X.prog X.w) X.A (evalPart e X.env) (fun u s' => ∃ o H', Inv X pins σ H' s' ∧ IsPart u o ∧ Q o H') X.xe s
theorem po_wp {e : Option Expr} : PO X e (wpO X e) := ⟨fun pins s σ H Q I h => h pins s I⟩
noncomputable def KO (t : Ct) (env : Ev) (σ : St) (G : Hp) (ρ : List Addr) (H : Hp) (Q : Option Int → Hp → Prop) (r : Option Int × Mu) : Prop := ∀ H' ρ' G', Ext G ρ H G' ρ' H' → Rel t G' ρ' env r.2 σ H' → Q r.1 H'
structure OV (nm : Nm) (X : Cx) (W : XW) (e : Option Expr) (m : MO) : Prop where
  run : ∀ env μ σ H ρ G Q, Rel (ct nm X) G ρ env μ σ H → Po (m env μ) (KO (ct nm X) env σ G ρ H Q) (KX (ct nm X) W env σ G ρ H) → wpO X e σ H Q
theorem ov_none : OV nm X W none oNone := ⟨fun env μ σ H ρ G Q R P pins s I => po_none.run pins s σ H Q I (P H ρ G .refl R)⟩
theorem ov_some (ha : EV nm X W a ma) : OV nm X W (some a) (oSome ma) := ⟨fun env μ σ H ρ G Q R P pins s I => (po_some pe_wp).run pins s σ H Q I (by
  refine ha.run env μ σ H ρ G _ R ((Po.bind P).imp (fun x hx v H1 ρ1 G1 e1 R1 r1 => ?_) fun _ _ _ h => h)
  obtain ⟨d, μ1⟩ := x
  cases d with
  | int i => cases r1; exact ⟨i, rfl, hx H1 ρ1 G1 e1 R1⟩
  | _ => exact hx.elim)⟩
noncomputable def rSlA3 (X : Cx) : V → Option Int → Option Int → Hp → VK → Prop := fun x lo hi H Q => (rSlS x lo hi H Q ∨ rSlA X.K x lo hi H Q) ∨ rSlL X.K x lo hi H Q
theorem slr_all : SlR X (rSlA3 X) := SlR.or (SlR.or sl_str sl_tupA) sl_list
theorem cutL_mem {α : Type} {xs : List α} {lo hi : Option Int} {c : α} (h : c ∈ cutL xs lo hi) : c ∈ xs := List.mem_of_mem_drop (List.mem_of_mem_take h)
theorem cutL_len {α : Type} (xs : List α) (lo hi : Option Int) : (cutL xs lo hi).length ≤ xs.length := by
  unfold cutL
  rw [List.length_take, List.length_drop]; omega
theorem cutL_reps {t : Ct} {G : Hp} {ρ : List Addr} {ds : List D} {vs : List V} (h : reps t G ρ ds vs) (lo hi : Option Int) : reps t G ρ (cutL ds lo hi) (cutV vs lo hi) := by
  unfold cutL cutV
  rw [h.length]
  exact (h.drop _).take _
theorem dSl_ok {fl : Bool} {env μ σ H ρ G Q} {d : D} {v : V} {l h : Option Int} (R : Rel (ct nm X) G ρ env μ σ H) (r : rep (ct nm X) G ρ d v) (P : Po (dSl fl d l h μ) (KE (ct nm X) env σ G ρ H Q) (KX (ct nm X) W env σ G ρ H)) : rSlA3 X v l h H Q := by
  unfold dSl at P
  split at P
  · obtain ⟨rfl, o⟩ := r
    refine .inl (.inl ⟨_, rfl, by rw [S_len, lineN_eq]; exact okS_len o, ?_⟩)
    refine P _ H ρ G .refl R ⟨?_, okS_sub o (cutL_len _ _ _) fun c hc => cutL_mem hc⟩
    unfold cutS cutL
    rw [S_cps, S_len]; rfl
  · rename_i ds
    have r0 := r
    obtain ⟨a, vs, rfl, q, rs⟩ := tup_H R r
    refine .inl (.inr ⟨a, vs, rfl, q, fun hw => ?_, fun hw => new_tup R (cutL_reps rs l h) P⟩)
    have e : cutL ds l h = ds := by
      unfold cutL
      rw [← rs.length, hw.1, hw.2, rs.length]
      simp
    have P : KE (ct nm X) env σ G ρ H Q (.tup (cutL ds l h), μ) := P
    rw [e] at P
    exact P _ H ρ G .refl R r0
  · split at P
    · rename_i e0
      obtain ⟨a, vs, rfl, q, rs⟩ := lof_ok R r e0
      exact .inr ⟨a, vs, rfl, q, new_L R (cutL_reps rs l h) P⟩
    · exact P.elim
theorem ev_sl (fl : Bool) (ha : EV nm X W a ma) (hl : OV nm X W lo ml) (hh : OV nm X W hi mh) : EV nm X W (.Subscript a (.Slice lo hi none p2) pos) (cSl fl ma ml mh) :=
  ev_of (pe_slice slr_all pe_wp po_wp po_wp) fun env μ σ H ρ G Q R P => by
  refine ha.run env μ σ H ρ G _ R ((Po.bind P).imp (fun x hx v H1 ρ1 G1 e1 R1 r1 => ?_) fun _ _ _ h => h)
  refine hl.run env x.2 σ H1 ρ1 G1 _ R1 ((Po.bind (Po.reE e1 hx)).imp (fun y hy H2 ρ2 G2 e2 R2 => ?_) fun _ _ _ h => h)
  refine hh.run env y.2 σ H2 ρ2 G2 _ R2 ((Po.bind (Po.reE e2 hy)).imp (fun z hz H3 ρ3 G3 e3 R3 => ?_) fun _ _ _ h => h)
  exact dSl_ok R3 (e3.rep (e2.rep r1)) (Po.reE e3 hz)
theorem cutS_K (x : List Nat) (lo hi : Option Int) (st : Int) : (⟨((Builtin.Str.strSliceIndices lo hi st (S x).length).filterMap ((S x).cps[·]?)).toArray⟩ : Str) = S (cutK x lo hi st) := by
  unfold cutK
  rw [S_len]
  show (⟨_⟩ : Str) = ⟨_⟩
  congr 2
  refine congrArg (fun f => List.filterMap f _) (funext fun i => ?_)
  rw [← Array.getElem?_toList, S_cps]
theorem cutK_mem {α : Type} {xs : List α} {lo hi : Option Int} {st : Int} {c : α} (h : c ∈ cutK xs lo hi st) : c ∈ xs := by
  unfold cutK at h
  obtain ⟨i, _, e⟩ := List.mem_filterMap.mp h
  exact List.mem_of_getElem? e
theorem ev_slK {st : Expr} {n : Int} (h1 : n ≠ 0) (h2 : n ≠ 1) (hst : ∀ (σ : St) (H : Hp), wpO X (some st) σ H (fun o H' => o = some n ∧ H' = H)) (hlen : ∀ (x : List Nat) lo hi, (cutK x lo hi n).length ≤ x.length)
    (ha : EV nm X W a ma) (hl : OV nm X W lo ml) (hh : OV nm X W hi mh) : EV nm X W (.Subscript a (.Slice lo hi (some st) p2) pos) (cSlK n ma ml mh) := by
  refine ⟨fun env μ σ H ρ G Q R P pins s I => ?_⟩
  refine Subscript_ (thn (ha.run env μ σ H ρ G (fun x H1 => wpO X lo σ H1 fun l H2 => wpO X hi σ H2 fun u H3 => ∃ z, x = .str (S z) ∧ z.length ≤ lineN ∧ Q (.str (S (cutK z l u n))) H3) R ?_ pins s I) fun v s1 ⟨x, H1, I1, r1, q1⟩ => ?_)
  · refine (Po.bind P).imp (fun x hx v H1 ρ1 G1 e1 R1 r1 => ?_) fun _ _ _ h => h
    refine hl.run env x.2 σ H1 ρ1 G1 _ R1 ((Po.bind (Po.reE e1 hx)).imp (fun y hy H2 ρ2 G2 e2 R2 => ?_) fun _ _ _ h => h)
    refine hh.run env y.2 σ H2 ρ2 G2 _ R2 ((Po.bind (Po.reE e2 hy)).imp (fun z hz H3 ρ3 G3 e3 R3 => ?_) fun _ _ _ h => h)
    obtain ⟨d, μ1⟩ := x
    cases d with
    | str x =>
      obtain ⟨rfl, o⟩ := r1
      exact ⟨x, rfl, okS_len o, hz _ H3 ρ3 G3 e3 R3 ⟨rfl, okS_sub o (hlen _ _ _) fun c hc => cutK_mem hc⟩⟩
    | _ => exact hz.elim
  · refine wpAny_Slice (thn (q1 pins s1 I1) fun vl s2 ⟨l, H2, I2, pl, q2⟩ => thn (q2 pins s2 I2) fun vu s3 ⟨u, H3, I3, pu, q3⟩ => thn (hst σ H3 pins s3 I3) fun vs s4 ⟨o, H4, I4, ps, eo, e4⟩ => ?_)
    subst eo e4
    obtain ⟨z, rfl, hz, q⟩ := q3
    obtain ⟨t, rfl⟩ := r1
    have I5 : Inv X pins σ H4 { s4 with heap := s4.heap.push { cls := .type "slice", data := .fields #[vl, vu, vs] } } := I4.kept (t' := s4.toks) fun b ob q => Heap.get?_push_of_some _ q
    show wpAny (model X.prog X.w) X.A (subscriptTail a (.Slice lo hi (some st) p2) (.str (S z) t) (.ref s4.heap.objs.size)) (EP X pins σ Q) X.xe { s4 with heap := s4.heap.push { cls := .type "slice", data := .fields #[vl, vu, vs] } }
    obtain ⟨os, hos, hcs, hds⟩ := Heap.IsSliceOf.new s4.heap vl vu vs
    obtain ⟨l', rfl, rfl⟩ := IsPart.raw pl
    obtain ⟨u', rfl, rfl⟩ := IsPart.raw pu
    obtain ⟨k, rfl, hk⟩ := IsPart.raw ps
    cases k with
    | none => cases hk
    | some kt =>
      obtain ⟨k, tk⟩ := kt
      cases hk
      refine tail_any (ops := [.str (S z) t, .ref s4.heap.objs.size]) (typeIs_str _ _ _) F.slot_str_getitem.lookup ?_ (by with_unfolding_all rfl)
      refine wpAny_getItem_str_slice (l := l') (u := u') (st := some (k, tk)) ⟨os, hos, hcs, hds⟩ (by simpa using h1) ?_
      unfold sliceMade slicePicked
      rw [if_neg (by simp [h2])]
      simp only [Option.map_some, Option.getD_some]
      rw [cutS_K]
      refine ⟨?_, .str _, H4, I5.tok _, ⟨_, rfl⟩, q⟩
      rw [S_len]
      exact Nat.le_trans (hlen _ _ _) hz
end
noncomputable def ngC (d : Int) (o : Option Int) (n : Nat) : Int := match o with
  | none => d
  | some i => max (-1) (min (if i < 0 then i + n else i) (n - 1))
theorem range_neg (a b : Int) : sliceRange a b (-1) = (List.range (a - b).toNat).map (fun k : Nat => (a - k).toNat) := by
  unfold sliceRange
  simp only [show ¬ ((-1 : Int) > 0) by decide, if_false]
  have e : (if a > b then (a - b - -1 - 1) / (- -1) else 0 : Int).toNat = (a - b).toNat := by
    split
    · have : a - b - -1 - 1 = a - b := by omega
      rw [this]; simp
    · omega
  rw [e]
  refine List.map_congr_left fun k _ => ?_
  rw [Int.neg_one_mul, ← Int.sub_eq_add_neg]
theorem idx_neg (lo hi : Option Int) (n : Nat) : Builtin.Str.strSliceIndices lo hi (-1) n = (List.range (ngC (n - 1) lo n - ngC (-1) hi n).toNat).map (fun k : Nat => (ngC (n - 1) lo n - k).toNat) := by
  unfold Builtin.Str.strSliceIndices
  simp only [show ¬ ((-1 : Int) > 0) by decide, if_false]
  rw [← range_neg]
  congr 1
theorem ngC_le (o : Option Int) (n : Nat) : ngC (n - 1) o n ≤ n - 1 := by
  unfold ngC
  cases o with
  | none => simp
  | some i => simp only; omega
theorem ngC_ge (o : Option Int) (n : Nat) : -1 ≤ ngC (-1) o n := by
  unfold ngC
  cases o with
  | none => simp
  | some i => simp only; omega
theorem cutK_neg_len {α : Type} (xs : List α) (lo hi : Option Int) : (cutK xs lo hi (-1)).length ≤ xs.length := by
  unfold cutK
  refine Nat.le_trans (List.length_filterMap_le _ _) ?_
  rw [idx_neg, List.length_map, List.length_range]
  have := ngC_le lo xs.length
  have := ngC_ge hi xs.length
  omega
theorem rev_idx {α : Type} (xs : List α) (m : Nat) (h : m ≤ xs.length) : ((List.range m).map (fun k => m - 1 - k)).filterMap (xs[·]?) = (xs.take m).reverse := by
  induction m with
  | zero => simp
  | succ m ih =>
    have hm : m < xs.length := h
    rw [List.range_succ_eq_map, List.map_cons, List.filterMap_cons, List.map_map]
    have e0 : m + 1 - 1 - 0 = m := by omega
    rw [e0, List.getElem?_eq_getElem hm]
    have e1 : ((fun k => m + 1 - 1 - k) ∘ Nat.succ) = fun k => m - 1 - k := by
      funext k; simp; omega
    rw [e1, ih (by omega), List.take_succ_eq_append_getElem hm, List.reverse_append]
    rfl
theorem ngC_none (d : Int) (n : Nat) : ngC d none n = d := rfl
theorem cutK_rev {α : Type} (xs : List α) : cutK xs none none (-1) = xs.reverse := by
  unfold cutK
  rw [idx_neg]
  have h := rev_idx xs xs.length (Nat.le_refl _)
  rw [List.take_length] at h
  rw [← h]
  rw [ngC_none, ngC_none]
  have e2 : ((xs.length : Int) - 1 - -1).toNat = xs.length := by omega
  rw [e2]
  congr 1
  refine List.map_congr_left fun j hj => ?_
  omega
section
variable {nm : Nm} {X : Cx} {W : XW} {a : Expr} {pos p2 p3 p4 : Pos} {ma : M} {lo hi : Option Expr} {ml mh : MO} {k : Nat}
theorem ev_slR (ha : EV nm X W a ma) (hl : OV nm X W lo ml) (hh : OV nm X W hi mh) : EV nm X W (.Subscript a (.Slice lo hi (some (.UnaryOp .USub (.Constant (.int 1) k p3) p4)) p2) pos) (cSlK (-1) ma ml mh) :=
  ev_slK (by decide) (by decide) (fun σ H pins s I => (po_some (pe_un un_neg pe_int)).run pins s σ H (fun o H4 => o = some (-1) ∧ H4 = H) I ⟨1, rfl, -1, rfl, rfl, rfl⟩) (fun x lo hi => cutK_neg_len x lo hi) ha hl hh
end
end Lr
namespace Lr
open PySem L2
inductive Ot where
  | nx (e : Ev) (μ : Mu) | rt (d : D) (μ : Mu) | bk (e : Ev) (μ : Mu) | ct (e : Ev) (μ : Mu) | xc (c : Nat) (ds : List D) (e : Ev) (μ : Mu)
noncomputable abbrev SM := Ev → Mu → Option Ot
noncomputable def wpS (X : Cx) (st : Stmt) : TS := fun D σ H => ∀ pins s, Inv X pins σ H s → wpAny (model X.prog X.w) X.A (exec st X.env) (SP X pins D) X.xe s
noncomputable def wpSs (X : Cx) (st : List Stmt) : TS := fun D σ H => ∀ pins s, Inv X pins σ H s → wpAny (model X.prog X.w) X.A (execs st X.env) (SP X pins D) X.xe s
noncomputable def wpG (X : Cx) (tg : Expr) : TG := fun v σ H Q => ∀ pins s u, Inv X pins σ H s → RelV v u → wpAny (model X.prog X.w) X.A (assign tg X.env u) (fun _ s' => ∃ σ' H', Inv X pins σ' H' s' ∧ Q σ' H') X.xe s
noncomputable def wpI (X : Cx) (tg iter : Expr) : TI := fun σ H R => ∀ pins s, Inv X pins σ H s → wpAny (model X.prog X.w) X.A (eval iter X.env) (fun v s1 => wpAny (model X.prog X.w) X.A (pyIter v) (PIE X pins σ tg R) X.xe s1) X.xe s
section
variable {X : Cx} {st : Stmt} {sts : List Stmt} {tg iter : Expr}
theorem ps_wp : PS X st (wpS X st) := ⟨fun pins s σ H D I h => h pins s I⟩
theorem pss_wp : PSs X sts (wpSs X sts) := ⟨fun pins s σ H D I h => h pins s I⟩
theorem pg_wp : PG X tg (wpG X tg) := ⟨fun pins s σ H v u Q I r h => h pins s u I r⟩
theorem pi_wp : PI X tg iter (wpI X tg iter) := ⟨fun pins s σ H R I h => h pins s I⟩
theorem to_s {t : TS} (p : PS X st t) {D σ H} (h : t D σ H) : wpS X st D σ H := fun pins s I => p.run pins s σ H D I h
theorem to_ss {t : TS} (p : PSs X sts t) {D σ H} (h : t D σ H) : wpSs X sts D σ H := fun pins s I => p.run pins s σ H D I h
theorem to_i {t : TI} (p : PI X tg iter t) {σ H R} (h : t σ H R) : wpI X tg iter σ H R := fun pins s I => p.run pins s σ H R I h
end
section
variable (t : Ct) (W : XW) (G : Hp) (ρ : List Addr) (H : Hp) (D : Ends)
noncomputable def KS : Ot → Prop
  | .nx e μ => ∀ σ' H' ρ' G', Ext G ρ H G' ρ' H' → Rel t G' ρ' e μ σ' H' → D.nx σ' H'
  | .rt d μ => ∀ v H' ρ' G', Ext G ρ H G' ρ' H' → Rel t G' ρ' [] μ [] H' → rep t G' ρ' d v → D.rt v H'
  | .bk e μ => ∀ σ' H' ρ' G', Ext G ρ H G' ρ' H' → Rel t G' ρ' e μ σ' H' → D.bk σ' H'
  | .ct e μ => ∀ σ' H' ρ' G', Ext G ρ H G' ρ' H' → Rel t G' ρ' e μ σ' H' → D.ct σ' H'
  | .xc c ds e μ => ∀ C dx σ' H' ρ' G', t.mg (t.nm.cn c) = some (.ref C) → Ext G ρ H G' ρ' H' → Rel t G' ρ' e μ σ' H' → xfs t G' ρ' H' c ds dx → W (.ref C) dx σ' H'
end
noncomputable def PoS {α : Type} (r : Option α) (k : α → Prop) : Prop := match r with
  | some a => k a
  | none => False
section
variable {t : Ct} {W : XW} {env : Ev} {σ : St} {G G' : Hp} {ρ ρ' : List Addr} {H H' : Hp} {D D' : Ends}
theorem KS.re (e : Ext G ρ H G' ρ' H') {o : Ot} (h : KS t W G ρ H D o) : KS t W G' ρ' H' D o := by
  cases o with
  | nx => exact fun σ' H2 ρ2 G2 x => h σ' H2 ρ2 G2 (e.trans x)
  | rt => exact fun v H2 ρ2 G2 x => h v H2 ρ2 G2 (e.trans x)
  | bk => exact fun σ' H2 ρ2 G2 x => h σ' H2 ρ2 G2 (e.trans x)
  | ct => exact fun σ' H2 ρ2 G2 x => h σ' H2 ρ2 G2 (e.trans x)
  | xc => exact fun C dx σ' H2 ρ2 G2 m x => h C dx σ' H2 ρ2 G2 m (e.trans x)
theorem PoS.re (e : Ext G ρ H G' ρ' H') {o : Option Ot} (h : PoS o (KS t W G ρ H D)) : PoS o (KS t W G' ρ' H' D) := by
  cases o with
  | none => exact h
  | some o => exact KS.re e h
theorem Rel.bare {μ : Mu} (R : Rel t G ρ env μ σ H) : Rel t G ρ [] μ [] H := R.reslot rfl fun i d e => by simp at e
end
structure SV (nm : Nm) (X : Cx) (W : XW) (st : Stmt) (m : SM) : Prop where
  run : ∀ env μ σ H ρ G D, Rel (ct nm X) G ρ env μ σ H → PoS (m env μ) (KS (ct nm X) W G ρ H D) → wpS X st D σ H
structure BV (nm : Nm) (X : Cx) (W : XW) (sts : List Stmt) (m : SM) : Prop where
  run : ∀ env μ σ H ρ G D, Rel (ct nm X) G ρ env μ σ H → PoS (m env μ) (KS (ct nm X) W G ρ H D) → wpSs X sts D σ H
noncomputable def sNext : SM := fun e μ => some (.nx e μ)
noncomputable def sSeq (a b : SM) : SM := fun e μ => match a e μ with
  | some (.nx e' μ') => b e' μ'
  | r => r
noncomputable def eThen {α : Type} (r : Res α) (e : Ev) (k : α → Option Ot) : Option Ot := match r with
  | .ok a => k a
  | .ex c ds μ => some (.xc c ds e μ)
  | .no => none
noncomputable def sExpr (a : M) : SM := fun e μ => eThen (a e μ) e fun x => some (.nx e x.2)
noncomputable def sRet (a : M) : SM := fun e μ => eThen (a e μ) e fun x => some (.rt x.1 x.2)
noncomputable def sRetN : SM := fun _ μ => some (.rt .non μ)
noncomputable def sBrk : SM := fun e μ => some (.bk e μ)
noncomputable def sCnt : SM := fun e μ => some (.ct e μ)
noncomputable def sIf (c : MT) (a b : SM) : SM := fun e μ => eThen (c e μ) e fun x => if x.1 then a e x.2 else b e x.2
noncomputable def sSet (i : Nat) (a : M) : SM := fun e μ => eThen (a e μ) e fun x => some (.nx (e.set i (some x.1)) x.2)
inductive Tg where
  | nm (i : Nat) | tp (ts : List Tg)
mutual
noncomputable def setT : Tg → D → Ev → Option Ev
  | .nm i, d, e => some (e.set i (some d))
  | .tp ts, .tup ds, e => setTs ts ds e
  | .tp _, _, _ => none
noncomputable def setTs : List Tg → List D → Ev → Option Ev
  | [], [], e => some e
  | t :: ts, d :: ds, e => match setT t d e with
    | some e' => setTs ts ds e'
    | none => none
  | _, _, _ => none
end
noncomputable def sAsg (T : Tg) (a : M) : SM := fun e μ => eThen (a e μ) e fun x => (setT T x.1 e).map fun e' => .nx e' x.2
inductive Src where
  | live (d : D) | fix (ds : List D)
noncomputable def items (s : Src) (μ : Mu) : Option (List D) := match s with
  | .live d => lof d μ
  | .fix ds => some ds
noncomputable abbrev MI := Ev → Mu → Res (Src × Mu)
noncomputable def iVal (a : M) : MI := fun e μ => (a e μ).bind fun x => match x.1 with
  | .str s => .ok (.fix (s.map fun c => .str [c]), x.2)
  | .tup ds => .ok (.fix ds, x.2)
  | .lst ds => .ok (.fix ds, x.2)
  | .scr ds => .ok (.fix ds, x.2)
  | .ref n => match x.2[n]? with
    | some (.lst _) => .ok (.live (.ref n), x.2)
    | _ => .no
  | _ => .no
noncomputable def okR (i : Int) : Prop := -(2 ^ 62) ≤ i ∧ i < 2 ^ 62
noncomputable instance {i} : Decidable (okR i) := by unfold okR; infer_instance
noncomputable def rangeD (lo : Int) (n : Nat) : List D := (List.range n).map fun i => .int (lo + (i : Nat))
noncomputable def iRange1 (ms : MA) : MI := fun e μ => (ms e μ).bind fun x => match x.1 with
  | [.int j] => if okR j then .ok (.fix (rangeD 0 j.toNat), x.2) else .no
  | _ => .no
noncomputable def iRange2 (ms : MA) : MI := fun e μ => (ms e μ).bind fun x => match x.1 with
  | [.int i, .int j] => if okR i ∧ okR j then .ok (.fix (rangeD i (j - i).toNat), x.2) else .no
  | _ => .no
noncomputable def forGo (T : Tg) (b : SM) (s : Src) : Nat → Nat → Ev → Mu → Option Ot
  | 0, _, _, _ => none
  | f + 1, i, e, μ => match items s μ with
    | none => none
    | some ds => match ds[i]? with
      | none => some (.nx e μ)
      | some d => match setT T d e with
        | none => none
        | some e1 => match b e1 μ with
          | some (.nx e2 μ2) => forGo T b s f (i + 1) e2 μ2
          | some (.ct e2 μ2) => forGo T b s f (i + 1) e2 μ2
          | some (.bk e2 μ2) => some (.nx e2 μ2)
          | r => r
theorem fuel_ex : ∃ n : Nat, 16777300 ≤ n := ⟨16777300, Nat.le_refl _⟩
noncomputable def fuel : Nat := Classical.choose fuel_ex
theorem fuel_ge : 16777300 ≤ fuel := Classical.choose_spec fuel_ex
noncomputable def sFor (T : Tg) (it : MI) (b : SM) : SM := fun e μ => eThen (it e μ) e fun x => forGo T b x.1 fuel 0 e x.2
noncomputable def whGo (c : MT) (b : SM) : Nat → Ev → Mu → Option Ot
  | 0, _, _ => none
  | f + 1, e, μ => eThen (c e μ) e fun x => if x.1 then match b e x.2 with
      | some (.nx e2 μ2) => whGo c b f e2 μ2
      | some (.ct e2 μ2) => whGo c b f e2 μ2
      | some (.bk e2 μ2) => some (.nx e2 μ2)
      | r => r
    else some (.nx e x.2)
noncomputable def sWhile (c : MT) (b : SM) : SM := fun e μ => whGo c b fuel e μ
section
variable {nm : Nm} {X : Cx} {W : XW} {a b c e : Expr} {st : Stmt} {sts s2 : List Stmt} {pos : Pos} {ma mb : M} {mt : MT} {m k : SM}
theorem eT {α : Type} {r : Res α} {env : Ev} {kk : α → Option Ot} {t : Ct} {G ρ H σ} {D : Ends} {μ0 : Mu} (R : Rel t G ρ env μ0 σ H) (P : PoS (eThen r env kk) (KS t W G ρ H D)) : Po r (fun a => PoS (kk a) (KS t W G ρ H D)) (KX t W env σ G ρ H) := by
  cases r with
  | ok a => exact P
  | ex c ds μ => exact fun C dx H' ρ' G' m x R' q => P C dx σ H' ρ' G' m x R' q
  | no => exact P
theorem bv_nil : BV nm X W [] sNext := ⟨fun env μ σ H ρ G D R P => to_ss pss_nil (P σ H ρ G .refl R)⟩
theorem bv_cons (h1 : SV nm X W st m) (h2 : BV nm X W sts k) : BV nm X W (st :: sts) (sSeq m k) := ⟨fun env μ σ H ρ G D R P => to_ss (pss_cons ps_wp pss_wp) (by
  refine h1.run env μ σ H ρ G _ R ?_
  unfold sSeq at P
  split at P
  · rename_i e' μ' q
    rw [q]
    exact fun σ' H' ρ' G' x R' => h2.run e' μ' σ' H' ρ' G' D R' (PoS.re x P)
  · rename_i r q
    cases h : m env μ with
    | none => rw [h] at P; exact P
    | some o =>
      rw [h] at P q
      cases o with
      | nx e' μ' => exact absurd rfl (q e' μ')
      | _ => exact P)⟩
theorem bv_one (h1 : SV nm X W st m) : BV nm X W [st] m := ⟨fun env μ σ H ρ G D R P => to_ss (pss_one ps_wp) (h1.run env μ σ H ρ G D R P)⟩
theorem sv_expr (ha : EV nm X W a ma) (hs : swapsWith a none pos.line X.env = pure false := by rfl) : SV nm X W (.Expr a pos) (sExpr ma) := ⟨fun env μ σ H ρ G D R P => to_s (ps_expr pe_wp hs) (by
  exact ha.run env μ σ H ρ G _ R ((eT R P).imp (fun x hx v H1 ρ1 G1 e1 R1 _ => hx σ H1 ρ1 G1 e1 R1) fun _ _ _ h => h))⟩
theorem sv_ret (ha : EV nm X W a ma) : SV nm X W (.Return (some a) pos) (sRet ma) := ⟨fun env μ σ H ρ G D R P => to_s (ps_ret pe_wp) (by
  exact ha.run env μ σ H ρ G _ R ((eT R P).imp (fun x hx v H1 ρ1 G1 e1 R1 r => hx v H1 ρ1 G1 e1 R1.bare r) fun _ _ _ h => h))⟩
theorem sv_if (hc : TV nm X W c mt) (ha : BV nm X W sts m) (hb : BV nm X W s2 k) : SV nm X W (.If c sts s2 pos) (sIf mt m k) := ⟨fun env μ σ H ρ G D R P => to_s (ps_if pt_wp pss_wp pss_wp) (by
  refine hc.run env μ σ H ρ G _ R ((eT R P).imp (fun x hx H1 ρ1 G1 e1 R1 => ?_) fun _ _ _ h => h)
  obtain ⟨z, μ'⟩ := x
  cases z with
  | true => exact iteT (ha.run env μ' σ H1 ρ1 G1 D R1 (PoS.re e1 hx))
  | false => exact iteF (hb.run env μ' σ H1 ρ1 G1 D R1 (PoS.re e1 hx)))⟩
theorem sv_set {i : Nat} {x : Str} {pos' : Pos} (hN : X.N.Nodup) (he : EV nm X W e ma) (hi : X.N[i]? = some x := by rfl) (hx : Loc X.env.scope x := by first | exact Or.inl rfl | exact Or.inr rfl) (hs : swapsWith e (some (.Name x pos')) pos.line X.env = pure false := by rfl) (hf : X.fn x = true ∨ X.env.scope.names.lookup x = some .local := by first | exact .inl rfl | exact .inr rfl | assumption) :
    SV nm X W (.Assign [.Name x pos'] e pos) (sSet i ma) := ⟨fun env μ σ H ρ G D R P => to_s (ps_set hN hi hx pe_wp hs hf) (by
  exact he.run env μ σ H ρ G _ R ((eT R P).imp (fun x hx v H1 ρ1 G1 e1 R1 r => hx _ H1 ρ1 G1 e1 (R1.setSlot r)) fun _ _ _ h => h))⟩
mutual
noncomputable def Tg.slots : Tg → List Nat
  | .nm i => [i]
  | .tp ts => Tg.slotss ts
noncomputable def Tg.slotss : List Tg → List Nat
  | [] => []
  | t :: ts => Tg.slots t ++ Tg.slotss ts
end
noncomputable def Wiped (ss : List Nat) (σ σ' : St) : Prop := ∀ vs : List Nat, (∀ i ∈ ss, i ∈ vs) → wipe σ' vs = wipe σ vs
theorem wiped_set {σ : St} {i : Nat} {o : Option V} : Wiped [i] σ (σ.set i o) := by
  intro vs h
  have hi : i ∈ vs := h i (by simp)
  refine List.ext_getElem? fun j => ?_
  by_cases hj : j ∈ vs
  · have key : ∀ τ : St, τ.length = σ.length → (wipe τ vs)[j]? = if j < σ.length then some none else none := fun τ hl => by
      by_cases hlt : j < σ.length
      · rw [if_pos hlt]
        have hw : j < (wipe τ vs).length := by rw [wipe_length, hl]; exact hlt
        cases q : (wipe τ vs)[j]? with
        | none => rw [List.getElem?_eq_none_iff] at q; omega
        | some o =>
          cases o with
          | none => rfl
          | some x => exact absurd hj (wipe_some q).2
      · rw [if_neg hlt, List.getElem?_eq_none_iff, wipe_length, hl]; omega
    rw [key _ (by simp), key σ rfl]
  · rw [wipe_out hj, wipe_out hj, List.getElem?_set_ne (fun e => hj (by rw [← e]; exact hi))]
structure GV (nm : Nm) (X : Cx) (tg : Expr) (T : Tg) : Prop where
  run : ∀ env μ σ H ρ G d v env' Q, Rel (ct nm X) G ρ env μ σ H → rep (ct nm X) G ρ d v → setT T d env = some env' → (∀ σ', Rel (ct nm X) G ρ env' μ σ' H → Wiped T.slots σ σ' → Q σ' H) → wpG X tg v σ H Q
structure GVs (nm : Nm) (X : Cx) (tgs : List Expr) (Ts : List Tg) : Prop where
  run : ∃ t, PGs X tgs t ∧ ∀ env μ σ H ρ G ds vs env' Q, Rel (ct nm X) G ρ env μ σ H → reps (ct nm X) G ρ ds vs → setTs Ts ds env = some env' → (∀ σ', Rel (ct nm X) G ρ env' μ σ' H → Wiped (Tg.slotss Ts) σ σ' → Q σ' H) → t vs σ H Q
theorem gv_name (i : Nat) {x : Str} (hN : X.N.Nodup) (hi : X.N[i]? = some x := by rfl) (hx : Loc X.env.scope x := by first | exact Or.inl rfl | exact Or.inr rfl) (hf : X.fn x = true ∨ X.env.scope.names.lookup x = some .local := by first | exact .inl rfl | exact .inr rfl | assumption) :
    GV nm X (.Name x pos) (.nm i) := ⟨fun env μ σ H ρ G d v env' Q R r e h pins s u I ru => (pg_name hN hi hx hf).run pins s σ H v u Q I ru (by
  cases e
  exact h _ (R.setSlot r) wiped_set)⟩
end
noncomputable def SrcOk (t : Ct) (G : Hp) (ρ : List Addr) (H : Hp) (s : Src) (J : It) : Prop := ∀ (i : Nat) G1 ρ1 env1 μ1 σ1 H1 xs, Ext G ρ H G1 ρ1 H1 → Rel t G1 ρ1 env1 μ1 σ1 H1 → items s μ1 = some xs →
  (∀ d, xs[i]? = some d → J.go i H1 ∧ ∀ x H2, J.yld i H1 x H2 → ∃ G2, Ext G1 ρ1 H1 G2 ρ1 H2 ∧ Rel t G2 ρ1 env1 μ1 σ1 H2 ∧ rep t G2 ρ1 d x) ∧ (xs[i]? = none → J.stop i H1)
noncomputable def KI (t : Ct) (env : Ev) (σ : St) (G : Hp) (ρ : List Addr) (H : Hp) (R : It → Hp → Prop) (r : Src × Mu) : Prop := ∀ J H' ρ' G', Ext G ρ H G' ρ' H' → Rel t G' ρ' env r.2 σ H' → SrcOk t G' ρ' H' r.1 J → R J H'
structure IV (nm : Nm) (X : Cx) (W : XW) (tg it : Expr) (m : MI) : Prop where
  run : ∀ env μ σ H ρ G R, Rel (ct nm X) G ρ env μ σ H → Po (m env μ) (KI (ct nm X) env σ G ρ H R) (KX (ct nm X) W env σ G ρ H) → wpI X tg it σ H R
section
variable {t : Ct} {G H : Hp} {ρ : List Addr}
theorem src_fixL {a : Addr} {vs : List V} {ds : List D} (hq : SqL t.K G a vs) (r : reps t G ρ ds vs) : SrcOk t G ρ H (.fix ds) (Itl t.K a) := by
  intro i G1 ρ1 env1 μ1 σ1 H1 xs e R h
  cases h
  have q1 : SqL t.K H1 a vs := Same.seq (e.sub.trans R.sub) hq
  have r1 := e.reps r
  refine ⟨fun d hd => ?_, fun hn => ⟨vs, q1, ?_⟩⟩
  · obtain ⟨v, hv, rv⟩ := r1.get hd
    refine ⟨⟨vs, v, q1, hv⟩, fun x H2 ⟨e1, hx⟩ => ?_⟩
    subst e1
    rw [hx vs q1] at hv
    cases hv
    exact ⟨G1, .refl, R, rv⟩
  · rw [r1.length]
    exact List.getElem?_eq_none_iff.mp hn
theorem src_tup {a : Addr} {vs : List V} {ds : List D} (hq : SqT t.K G a vs) (r : reps t G ρ ds vs) : SrcOk t G ρ H (.fix ds) (Itt t.K a) := by
  intro i G1 ρ1 env1 μ1 σ1 H1 xs e R h
  cases h
  have q1 : SqT t.K H1 a vs := Same.seqT (e.sub.trans R.sub) hq
  have r1 := e.reps r
  refine ⟨fun d hd => ?_, fun hn => ⟨vs, q1, ?_⟩⟩
  · obtain ⟨v, hv, rv⟩ := r1.get hd
    refine ⟨⟨vs, v, q1, hv⟩, fun x H2 ⟨e1, hx⟩ => ?_⟩
    subst e1
    rw [hx vs q1] at hv
    cases hv
    exact ⟨G1, .refl, R, rv⟩
  · rw [r1.length]
    exact List.getElem?_eq_none_iff.mp hn
theorem src_list {d0 : D} {v : V} {a : Addr} (hv : rep t G ρ d0 v) (ev : v = .ref a) (hl : ∀ G1 ρ1 env1 μ1 σ1 H1 xs, Rel t G1 ρ1 env1 μ1 σ1 H1 → rep t G1 ρ1 d0 v → lof d0 μ1 = some xs → ∃ vs, SqL t.K H1 a vs ∧ reps t G1 ρ1 xs vs) : SrcOk t G ρ H (.live d0) (Itl t.K a) := by
  intro i G1 ρ1 env1 μ1 σ1 H1 xs e R h
  obtain ⟨vs, q1, r1⟩ := hl G1 ρ1 env1 μ1 σ1 H1 xs R (e.rep hv) h
  refine ⟨fun d hd => ?_, fun hn => ⟨vs, q1, ?_⟩⟩
  · obtain ⟨w, hw, rv⟩ := r1.get hd
    refine ⟨⟨vs, w, q1, hw⟩, fun x H2 ⟨e1, hx⟩ => ?_⟩
    subst e1
    rw [hx vs q1] at hw
    cases hw
    exact ⟨G1, .refl, R, rv⟩
  · rw [r1.length]
    exact List.getElem?_eq_none_iff.mp hn
theorem src_str {z : List Nat} (o : okS z = true) : SrcOk t G ρ H (.fix (z.map fun c => .str [c])) (Its (S z)) := by
  intro i G1 ρ1 env1 μ1 σ1 H1 xs e R h
  cases h
  have sz : (S z).cps.size = z.length := by simp [S]
  refine ⟨fun d hd => ?_, fun hn => ?_⟩
  · rw [List.getElem?_map] at hd
    cases q : z[i]? with
    | none => rw [q] at hd; cases hd
    | some c =>
      rw [q] at hd
      cases hd
      have hi := (List.getElem?_eq_some_iff.mp q).1
      refine ⟨(show i < (S z).cps.size by rw [sz]; exact hi), fun x H2 ⟨e1, c', e2, e3⟩ => ?_⟩
      subst e1
      have : (S z).cps[i]? = some c := by
        rw [← Array.getElem?_toList, S_cps]; exact q
      rw [this] at e2
      cases e2
      exact ⟨G1, .refl, R, e3, okS_mk (by show 1 ≤ lineN; decide) fun w hw => by
        have hw := List.mem_singleton.mp hw
        subst hw
        exact okS_mem o (List.mem_of_getElem? q)⟩
  · have := List.getElem?_eq_none_iff.mp hn
    rw [List.length_map] at this
    show (S z).cps.size ≤ i
    rw [sz]; exact this
theorem src_range {lo : Int} {n : Nat} : SrcOk t G ρ H (.fix (rangeD lo n)) (Itr lo n) := by
  intro i G1 ρ1 env1 μ1 σ1 H1 xs e R h
  cases h
  unfold rangeD
  refine ⟨fun d hd => ?_, fun hn => ?_⟩
  · rw [List.getElem?_map] at hd
    by_cases hi : i < n
    · rw [List.getElem?_range hi] at hd
      cases hd
      exact ⟨hi, fun x H2 ⟨e1, e2⟩ => by subst e1; exact ⟨G1, .refl, R, e2⟩⟩
    · rw [List.getElem?_eq_none (by simp; omega)] at hd
      cases hd
  · have := List.getElem?_eq_none_iff.mp hn
    simp at this
    exact this
end
section
variable {nm : Nm} {X : Cx} {W : XW} {a b tg it : Expr} {sts : List Stmt} {pos p : Pos} {ma mb : M} {mt : MT} {mi : MI} {m : SM} {T : Tg}
theorem pi_any {l : Expr} : PI X tg l (fun σ H R => wpE X l σ H fun x H1 => (∃ a, x = .ref a ∧ (∃ xs, SqL X.K H1 a xs) ∧ R (Itl X.K a) H1) ∨ (∃ a, x = .ref a ∧ (∃ xs, SqT X.K H1 a xs) ∧ R (Itt X.K a) H1) ∨ ∃ z, x = .str z ∧ R (Its z) H1) := by
  refine ⟨fun pins s σ H R I h => ?_⟩
  refine thn (h pins s I) fun v s1 ⟨x, H1, I1, r1, q⟩ => ?_
  rcases q with ⟨a, rfl, ⟨xs, hq⟩, q⟩ | ⟨a, rfl, ⟨xs, hq⟩, q⟩ | ⟨z, rfl, q⟩
  · cases r1
    obtain ⟨its, rv, p, hz⟩ := I1.list hq
    refine wpAny_pyIter_list p.isList ?_
    refine ⟨s1.heap.objs.size, [s1.heap.objs.size], _, _, H1, rfl, I1.kept (t' := s1.toks) fun b o e => Heap.get?_push_of_some _ e, turn_list a _, ⟨_, Heap.get?_push_size _ rfl, rfl, rfl⟩, fun b hb => ?_, q⟩
    have e : b = s1.heap.objs.size := by simpa using hb
    subst e
    exact I1.fpOk (Nat.le_refl _) (I1.hok.fresh (Nat.le_refl _))
  · cases r1
    obtain ⟨its, rv, p, hz⟩ := I1.tuple hq
    refine wpAny_pyIter_tuple (show s1.heap.IsTuple a its.toArray from p) ?_
    refine ⟨s1.heap.objs.size, [s1.heap.objs.size], _, _, H1, rfl, I1.kept (t' := s1.toks) fun b o e => Heap.get?_push_of_some _ e, turn_tuple a _, ⟨_, Heap.get?_push_size _ rfl, rfl, rfl⟩, fun b hb => ?_, q⟩
    have e : b = s1.heap.objs.size := by simpa using hb
    subst e
    exact I1.fpOk (Nat.le_refl _) (I1.hok.fresh (Nat.le_refl _))
  · obtain ⟨t, rfl⟩ := r1
    cases ha : z.cps.all (· < 128)
    · exact wpAny_pyIter_wide ha (pi_one (tk := s1.toks) I1 _ (turn_str _ z t "str_iterator" (.inr rfl)) ⟨_, Heap.get?_push_size _ rfl, rfl, rfl⟩ q)
    · exact wpAny_pyIter_ascii ha (pi_one (tk := s1.toks) I1 _ (turn_str _ z t "str_ascii_iterator" (.inl rfl)) ⟨_, Heap.get?_push_size _ rfl, rfl, rfl⟩ q)
end
end Lr
namespace Lr
open PySem L2
section
variable {nm : Nm} {X : Cx} {W : XW} {a b c tg it : Expr} {sts : List Stmt} {pos p : Pos} {ma mb : M} {mt : MT} {mi : MI} {m : SM} {T : Tg}
theorem iv_val (ha : EV nm X W a ma) : IV nm X W tg a (iVal ma) := ⟨fun env μ σ H ρ G R0 R P => to_i pi_any (by
  refine ha.run env μ σ H ρ G _ R ((Po.bind P).imp (fun x hx v H1 ρ1 G1 e1 R1 r => ?_) fun _ _ _ h => h)
  obtain ⟨d, μ1⟩ := x
  cases d with
  | str s =>
    obtain ⟨rfl, o⟩ := r
    exact .inr (.inr ⟨_, rfl, hx _ H1 ρ1 G1 e1 R1 (src_str o)⟩)
  | tup ds =>
    have r0 := r
    obtain ⟨a, vs, rfl, q, rs⟩ := r0
    exact .inr (.inl ⟨a, rfl, ⟨vs, SqT.of (R1.sub _ _ q)⟩, hx _ H1 ρ1 G1 e1 R1 (src_tup (SqT.of q) rs)⟩)
  | lst ds =>
    have r0 := r
    obtain ⟨a, vs, rfl, q, rs⟩ := r0
    exact .inl ⟨a, rfl, ⟨vs, SqL.of (R1.sub _ _ q)⟩, hx _ H1 ρ1 G1 e1 R1 (src_fixL (SqL.of q) rs)⟩
  | scr ds =>
    have r0 := r
    obtain ⟨a, vs, rfl, q, rs⟩ := r0
    exact .inl ⟨a, rfl, ⟨vs, R1.sub.seq q⟩, hx _ H1 ρ1 G1 e1 R1 (src_fixL q rs)⟩
  | ref n =>
    dsimp only at hx
    cases hc : μ1[n]? with
    | none => rw [hc] at hx; exact hx.elim
    | some cc =>
      rw [hc] at hx
      cases cc with
      | lst ds =>
        obtain ⟨a, vs, e2, q, rs⟩ := lof_ok R1 r (show lof (.ref n) μ1 = some ds by simp only [lof, hc])
        refine .inl ⟨a, e2, ⟨vs, q⟩, hx _ H1 ρ1 G1 e1 R1 (src_list r e2 fun G2 ρ2 env2 μ2 σ2 H2 xs R2 r2 h2 => ?_)⟩
        obtain ⟨a', vs', e3, q', rs'⟩ := lof_ok R2 r2 h2
        rw [e2] at e3; cases e3
        exact ⟨vs', q', rs'⟩
      | _ => exact hx.elim
  | _ => exact hx.elim)⟩
theorem iv_range1 {ms : MA} (ha : AV nm X W [a] ms) (hg : Gl X "range" := by rfl) (hm : X.mg "range" = none := by assumption) (hs : starEach [a] X.env = [(false, eval a X.env)] := by rfl) : IV nm X W tg (.Call (.Name "range" p) [a] [] pos) (iRange1 ms) :=
  ⟨fun env μ σ H ρ G R0 R P => to_i (pi_range1 hg hm pa_wp hs) (by
  refine ha.run env μ σ H ρ G _ R ((Po.bind P).imp (fun x hx vs H1 ρ1 G1 e1 R1 r => ?_) fun _ _ _ h => h)
  obtain ⟨ds, μ1⟩ := x
  dsimp only at hx
  split at hx
  · split at hx
    · rename_i j hz
      obtain ⟨v, r0, rfl, rv, hr⟩ := r
      cases rv
      cases hr
      exact ⟨j, rfl, hz.1, hz.2, hx _ H1 ρ1 G1 e1 R1 src_range⟩
    · exact hx.elim
  · exact hx.elim)⟩
theorem sv_for (hp : PassesOwn (model X.prog X.w) X.A X.env X.xe) (hc : X.calm = true) (hi : IV nm X W tg it mi) (hg : GV nm X tg T) (hb : BV nm X W sts m) (hs : ∀ x, foldedSetIterable it X.env x = pure x := by intro _; rfl) :
    SV nm X W (.For tg it sts [] pos) (sFor T mi m) := ⟨fun env μ σ H ρ G D R P => to_s (ps_for hp hc pi_wp pg_wp pss_wp hs) (by
  refine hi.run env μ σ H ρ G _ R ((eT R P).imp (fun x hx J H1 ρ1 G1 e1 R1 so => ?_) fun _ _ _ h => h)
  obtain ⟨s, μ1⟩ := x
  have hx : PoS (forGo T m s fuel 0 env μ1) (KS (ct nm X) W G1 ρ1 H1 D) := PoS.re e1 hx
  have R1 : Rel (ct nm X) G1 ρ1 env μ1 σ H1 := R1
  refine ⟨fun i f σ H => ∃ env μ ρ G, Ext G1 ρ1 H1 G ρ H ∧ Rel (ct nm X) G ρ env μ σ H ∧ PoS (forGo T m s f i env μ) (KS (ct nm X) W G1 ρ1 H1 D), ⟨fuel, env, μ1, ρ1, G1, .refl, R1, hx⟩, ?_⟩
  rintro i f σ2 H2 ⟨env2, μ2, ρ2, G2, e2, R2, P2⟩
  cases f with
  | zero => exact P2.elim
  | succ f =>
    unfold forGo at P2
    cases hq : items s μ2 with
    | none => rw [hq] at P2; exact P2.elim
    | some ds =>
      obtain ⟨so1, so2⟩ := so i G2 ρ2 env2 μ2 σ2 H2 ds e2 R2 hq
      rw [hq] at P2
      dsimp only at P2
      cases hd : ds[i]? with
      | none =>
        rw [hd] at P2
        exact .inl ⟨so2 hd, P2 σ2 H2 ρ2 G2 e2 R2⟩
      | some d =>
        rw [hd] at P2
        dsimp only at P2
        obtain ⟨go, yl⟩ := so1 d hd
        refine .inr ⟨go, fun σ' H' => ∃ env μ ρ G, Ext G1 ρ1 H1 G ρ H' ∧ Rel (ct nm X) G ρ env μ σ' H' ∧ PoS (forGo T m s f (i + 1) env μ) (KS (ct nm X) W G1 ρ1 H1 D), fun σ' H' h => ⟨f, Nat.lt_succ_self f, h⟩, fun x H3 y => ?_⟩
        obtain ⟨G3, e3, R3, r3⟩ := yl x H3 y
        cases ht : setT T d env2 with
        | none => rw [ht] at P2; exact P2.elim
        | some env3 =>
          rw [ht] at P2
          dsimp only at P2
          refine hg.run env2 μ2 σ2 H3 ρ2 G3 d x env3 _ R3 r3 ht fun σ3 R4 _ => ?_
          refine hb.run env3 μ2 σ3 H3 ρ2 G3 _ R4 ?_
          have e4 := e2.trans e3
          cases hm : m env3 μ2 with
          | none => rw [hm] at P2; exact P2
          | some o =>
            rw [hm] at P2
            cases o with
            | nx e' μ' => exact fun σ' H' ρ' G' ex R' => ⟨e', μ', ρ', G', e4.trans ex, R', P2⟩
            | ct e' μ' => exact fun σ' H' ρ' G' ex R' => ⟨e', μ', ρ', G', e4.trans ex, R', P2⟩
            | bk e' μ' => exact fun σ' H' ρ' G' ex R' => P2 σ' H' ρ' G' (e4.trans ex) R'
            | rt d' μ' => exact fun v H' ρ' G' ex R' r => P2 v H' ρ' G' (e4.trans ex) R' r
            | xc c ds' e' μ' => exact fun C dx σ' H' ρ' G' mm ex R' q => P2 C dx σ' H' ρ' G' mm (e4.trans ex) R' q)⟩
end
end Lr
namespace Lr
open PySem L2
mutual
noncomputable def nr : D → Bool
  | .non => true | .bl _ => true | .int _ => true | .str _ => true
  | .tup ds => nrs ds | .lst ds => nrs ds | .scr ds => nrs ds | .dic kvs => nrk kvs | .dit kvs => nrk kvs | .obj _ ds => nrs ds
  | .tpz ds => nrs ds | .exc _ ds => nrs ds
  | .ref _ => false | .din _ => false
noncomputable def nrs : List D → Bool
  | [] => true
  | d :: ds => nr d && nrs ds
noncomputable def nrk : List (D × D) → Bool
  | [] => true
  | (_, d) :: ds => nr d && nrk ds
end
noncomputable def inl (al : Bool) (μ : Mu) : Nat → D → Option D
  | 0, _ => none
  | _ + 1, .non => some .non
  | _ + 1, .bl b => some (.bl b)
  | _ + 1, .int i => some (.int i)
  | _ + 1, .str x => some (.str x)
  | k + 1, .tup ds => (mapO (inl al μ k) ds).map .tup
  | k + 1, .ref n => match μ[n]? with
    | some (.lst ds) => (mapO (inl al μ k) ds).map .lst
    | some (.dic kvs) => (mapO (fun p => (inl al μ k p.2).map fun d => (p.1, d)) kvs).map .dic
    | some (.dit kvs) => (mapO (fun p => (inl al μ k p.2).map fun d => (p.1, d)) kvs).map .dit
    | some (.obj c ds) => (mapO (inl al μ k) ds).map (.obj c)
    | _ => none
  | k + 1, .lst ds => if al then (mapO (inl al μ k) ds).map .lst else none
  | k + 1, .scr ds => if al then (mapO (inl al μ k) ds).map .scr else none
  | k + 1, .dic kvs => if al then (mapO (fun p => (inl al μ k p.2).map fun d => (p.1, d)) kvs).map .dic else none
  | k + 1, .dit kvs => if al then (mapO (fun p => (inl al μ k p.2).map fun d => (p.1, d)) kvs).map .dit else none
  | k + 1, .obj c ds => if al then (mapO (inl al μ k) ds).map (.obj c) else none
  | k + 1, .tpz ds => (mapO (inl al μ k) ds).map .tpz
  | k + 1, .exc c ds => (mapO (inl al μ k) ds).map (.exc c)
  | _ + 1, .din _ => none
noncomputable def vw (μ : Mu) (d : D) : Option D := if nr d then some d else inl true μ 12 d
noncomputable def vws (μ : Mu) : List D → Option (List D)
  | [] => some []
  | d :: ds => match vw μ d, vws μ ds with
    | some x, some xs => some (x :: xs)
    | _, _ => none
noncomputable def scal : D → Bool
  | .non => true | .bl _ => true | .int _ => true | .str _ => true
  | _ => false
noncomputable def vf (μ : Mu) (d : D) : Option D := if scal d then some d else inl false μ 12 d
section
variable {t : Ct} {G H J : Hp} {ρ ρ2 : List Addr} {env : Ev} {μ : Mu} {σ : St}
mutual
theorem rep_nr (hs : Same G J) : ∀ (d : D) (v : V), nr d = true → rep t G ρ d v → rep t J ρ2 d v
  | .non, _, _, h => h
  | .bl _, _, _, h => h
  | .int _, _, _, h => h
  | .str _, _, _, h => h
  | .tup ds, _, f, ⟨a, vs, e, q, r⟩ => ⟨a, vs, e, hs _ _ q, reps_nr hs ds vs f r⟩
  | .lst ds, _, f, ⟨a, vs, e, q, r⟩ => ⟨a, vs, e, hs _ _ q, reps_nr hs ds vs f r⟩
  | .scr ds, _, f, ⟨a, vs, e, q, r⟩ => ⟨a, vs, e, Same.seq hs q, reps_nr hs ds vs f r⟩
  | .dic kvs, _, f, ⟨a, ks, e, q, r⟩ => ⟨a, ks, e, Same.rd hs q, repk_nr hs kvs ks f r⟩
  | .dit kvs, _, f, ⟨a, ks, e, q, r⟩ => ⟨a, ks, e, hs _ _ q, repkT_nr hs kvs ks f r⟩
  | .obj c ds, _, f, ⟨a, C, dx, vs, e, m, q, l, r⟩ => ⟨a, C, dx, vs, e, m, hs _ _ q, l, reps_nr hs ds vs f r⟩
  | .tpz ds, _, f, ⟨a, vs, e, q, r⟩ => ⟨a, vs, e, Same.tz hs q, reps_nr hs ds vs f r⟩
  | .exc c ds, _, f, ⟨a, C, dx, e, m, q, r⟩ => ⟨a, C, dx, e, m, hs _ _ q, r.imp id fun ⟨d, vs, e1, e2, l, r⟩ => ⟨d, vs, e1, hs _ _ e2, l, reps_nr hs ds vs f r⟩⟩
  | .ref _, _, f, _ => by cases f
  | .din _, _, f, _ => by cases f
theorem reps_nr (hs : Same G J) : ∀ (ds : List D) (vs : List V), nrs ds = true → reps t G ρ ds vs → reps t J ρ2 ds vs
  | [], _, _, h => h
  | d :: ds, _, f, ⟨v, r, e, h1, h2⟩ => by
    simp only [nrs, Bool.and_eq_true] at f
    exact ⟨v, r, e, rep_nr hs d v f.1 h1, reps_nr hs ds r f.2 h2⟩
theorem repk_nr (hs : Same G J) : ∀ (ds : List (D × D)) (vs : List (Key × V)), nrk ds = true → repk t G ρ ds vs → repk t J ρ2 ds vs
  | [], _, _, h => h
  | (k, d) :: ds, _, f, ⟨k', v, r, e, hk, h1, h2⟩ => by
    simp only [nrk, Bool.and_eq_true] at f
    exact ⟨k', v, r, e, hk, rep_nr hs d v f.1 h1, repk_nr hs ds r f.2 h2⟩
theorem repkT_nr (hs : Same G J) : ∀ (ds : List (D × D)) (vs : List (List Key × V)), nrk ds = true → repkT t G ρ ds vs → repkT t J ρ2 ds vs
  | [], _, _, h => h
  | (k, d) :: ds, _, f, ⟨k', v, r, e, hk, h1, h2⟩ => by
    simp only [nrk, Bool.and_eq_true] at f
    exact ⟨k', v, r, e, hk, rep_nr hs d v f.1 h1, repkT_nr hs ds r f.2 h2⟩
end
theorem inl_all {f : D → Option D} (ih : ∀ d d' v, rep t G ρ d v → f d = some d' → rep t J ρ2 d' v) : ∀ (ds ds' : List D) (vs : List V), reps t G ρ ds vs → mapO f ds = some ds' → reps t J ρ2 ds' vs
  | [], _, _, r, e => by cases e; exact r
  | d :: ds, ds', _, ⟨v, r, e1, h1, h2⟩, e => by
    unfold mapO at e
    split at e
    · rename_i x xs a b
      cases e
      exact ⟨v, r, e1, ih d x v h1 a, inl_all ih ds xs r h2 b⟩
    · cases e
theorem inl_allk {f : D → Option D} (ih : ∀ d d' v, rep t G ρ d v → f d = some d' → rep t J ρ2 d' v) : ∀ (ds ds' : List (D × D)) (vs : List (Key × V)), repk t G ρ ds vs → mapO (fun p => (f p.2).map fun d => (p.1, d)) ds = some ds' → repk t J ρ2 ds' vs
  | [], _, _, r, e => by cases e; exact r
  | (k, d) :: ds, ds', _, ⟨k', v, r, e1, hk, h1, h2⟩, e => by
    unfold mapO at e
    split at e
    · rename_i x xs a b
      cases e
      simp only [Option.map_eq_some_iff] at a
      obtain ⟨y, a, rfl⟩ := a
      exact ⟨k', v, r, e1, hk, ih d y v h1 a, inl_allk ih ds xs r h2 b⟩
    · cases e
theorem inl_allkT {f : D → Option D} (ih : ∀ d d' v, rep t G ρ d v → f d = some d' → rep t J ρ2 d' v) : ∀ (ds ds' : List (D × D)) (vs : List (List Key × V)), repkT t G ρ ds vs → mapO (fun p => (f p.2).map fun d => (p.1, d)) ds = some ds' → repkT t J ρ2 ds' vs
  | [], _, _, r, e => by cases e; exact r
  | (k, d) :: ds, ds', _, ⟨k', v, r, e1, hk, h1, h2⟩, e => by
    unfold mapO at e
    split at e
    · rename_i x xs a b
      cases e
      simp only [Option.map_eq_some_iff] at a
      obtain ⟨y, a, rfl⟩ := a
      exact ⟨k', v, r, e1, hk, ih d y v h1 a, inl_allkT ih ds xs r h2 b⟩
    · cases e
noncomputable def Tq : HO → Prop
  | .tup _ => True
  | .frz _ (.tup _) => True
  | .ext φ => ∃ a C dx, HO.ext φ = ExV a C dx
  | .xd _ => True
  | _ => False
noncomputable def obHeap (a : Addr) (o : Obj) : Heap := { (default : Heap) with objs := Array.replicate (a + 1) o }
theorem paired_vals : ∀ xs : List NE, ∃ vs : List (PySem.NestedKey × Addr × Value), Paired (fun (x : NE) (y : PySem.NestedKey × Addr × Value) => x.1 = y.1 ∧ x.2.1 = y.2.1 ∧ RelV x.2.2 y.2.2) xs vs
  | [] => ⟨[], .nil⟩
  | x :: xs => by
    obtain ⟨vs, h⟩ := paired_vals xs
    have : ∃ u, RelV x.2.2 u := by
      cases x.2.2 with
      | non => exact ⟨_, rfl⟩
      | bl b => exact ⟨_, rfl⟩
      | int i => exact ⟨.int i 0, 0, rfl⟩
      | str y => exact ⟨.str y 0, 0, rfl⟩
      | byt b => exact ⟨.bytes b 0, 0, rfl⟩
      | flt b => exact ⟨.float b 0, 0, rfl⟩
      | ref a => exact ⟨_, rfl⟩
      | ty n => exact ⟨_, rfl⟩
    obtain ⟨u, hu⟩ := this
    exact ⟨(x.1, x.2.1, u) :: vs, .cons ⟨rfl, rfl, hu⟩ h⟩
theorem dn_ne {w : World} {a b C : Addr} {dx : Option Addr} {xs : List NE} (h1 : (a == sysModules) = false) (h2 : xs.length ≤ sizeLine) : DnO w a xs ≠ ExV b C dx := by
  intro e
  unfold DnO ExV at e
  injection e with e
  obtain ⟨vs, hv⟩ := paired_vals xs
  have k := congrFun e (obHeap a { cls := .type "dict", data := .dict (vs.map fun y => ⟨y.1.hash w, .ref y.2.1, y.2.2⟩).toArray 0 })
  have g : ∀ c o, (obHeap a { cls := .type "dict", data := .dict (vs.map fun y => ⟨y.1.hash w, .ref y.2.1, y.2.2⟩).toArray 0 }).get? c = some o → o = { cls := .type "dict", data := .dict (vs.map fun y => ⟨y.1.hash w, .ref y.2.1, y.2.2⟩).toArray 0 } := fun c o q => by
    have q := (Heap.get?_some_iff.mp q).1
    unfold obHeap at q
    simp only [Array.getElem?_replicate] at q
    split at q
    · exact (Option.some.inj q).symm
    · cases q
  have l : (∃ (vs' : List (PySem.NestedKey × Addr × Value)) (o : Obj) (es : Array DictEntry) (ep : Nat),
    Paired (fun (x : NE) (y : PySem.NestedKey × Addr × Value) => x.1 = y.1 ∧ x.2.1 = y.2.1 ∧ RelV x.2.2 y.2.2) xs vs' ∧
    (a == sysModules) = false ∧ xs.length ≤ sizeLine ∧ (obHeap a { cls := .type "dict", data := .dict (vs.map fun y => ⟨y.1.hash w, .ref y.2.1, y.2.2⟩).toArray 0 }).get? a = some o ∧ o.ExactDict ∧ o.data = .dict es ep ∧ es.toList = vs'.map (fun y => ⟨y.1.hash w, .ref y.2.1, y.2.2⟩)) := by
    refine ⟨vs, { cls := .type "dict", data := .dict (vs.map fun y => ⟨y.1.hash w, .ref y.2.1, y.2.2⟩).toArray 0 }, (vs.map fun y => ⟨y.1.hash w, .ref y.2.1, y.2.2⟩).toArray, 0, hv, h1, h2, Heap.get?_some_iff.mpr ⟨?_, ?_⟩, ⟨rfl, rfl, rfl⟩, rfl, ?_⟩
    · unfold obHeap
      simp only [Array.getElem?_replicate]
      rw [if_pos (Nat.lt_succ_self a)]
    · rfl
    · simp
  rw [k] at l
  obtain ⟨oe, fs, q1, _, q2⟩ := l
  rw [g _ _ q1] at q2
  cases q2
theorem dn_nc {w : World} {a b : Addr} {q : Str} {xs : List NE} : DnO w a xs ≠ LamX.CodeO b q := by
  intro e
  unfold DnO LamX.CodeO at e
  injection e with e
  have k := congrFun e (obHeap b { cls := .none, data := .fields #[.none, .str q 1] })
  have g : ∀ c o, (obHeap b { cls := .none, data := .fields #[.none, .str q 1] }).get? c = some o → o = { cls := .none, data := .fields #[.none, .str q 1] } := fun c o q => by
    have q := (Heap.get?_some_iff.mp q).1
    unfold obHeap at q
    simp only [Array.getElem?_replicate] at q
    split at q
    · exact (Option.some.inj q).symm
    · cases q
  have l : ∃ (oc : Obj) (vs : Array Value) (t : Tok), (obHeap b { cls := .none, data := .fields #[.none, .str q 1] }).get? b = some oc ∧ oc.data = .fields vs ∧ vs[1]? = some (.str q t) := by
    refine ⟨{ cls := .none, data := .fields #[.none, .str q 1] }, #[.none, .str q 1], 1, Heap.get?_some_iff.mpr ⟨?_, rfl⟩, rfl, rfl⟩
    · unfold obHeap
      simp only [Array.getElem?_replicate]
      rw [if_pos (Nat.lt_succ_self b)]
  rw [← k] at l
  obtain ⟨vs, o, es, ep, _, _, _, q1, _, q2, _⟩ := l
  rw [g _ _ q1] at q2
  cases q2
theorem cell.nc {t : Ct} {G H : Hp} {ρ : List Addr} {a c : Addr} {q : Str} (e : H a = Option.some (LamX.CodeO c q)) : ∀ {d : D}, cell t G ρ H a d → False
  | .lst ds, ⟨vs, z, r⟩ => nomatch e.symm.trans z
  | .dic kvs, ⟨ks, z, r⟩ => nomatch e.symm.trans z
  | .dit kvs, ⟨ks, z, r⟩ => nomatch e.symm.trans z
  | .obj c ds, ⟨C, dx, vs, m, z, l, r⟩ => nomatch e.symm.trans z
  | .din kvs, ⟨xs, z, n, _, _, r⟩ => dn_nc (Option.some.inj (z.symm.trans e))
theorem Rel.ρC {t : Ct} {G H : Hp} {ρ : List Addr} {env : Ev} {μ : Mu} {σ : St} (R : Rel t G ρ env μ σ H) {a c : Addr} {q : Str} (ha : a ∈ ρ) : H a ≠ some (LamX.CodeO c q) := fun z => by
  obtain ⟨n, hn, e⟩ := List.getElem_of_mem ha
  exact cell.nc z (R.cells n a (μ[n]'(by rw [← R.len]; exact hn)) (by rw [List.getElem?_eq_getElem hn, e]) (by simp))
theorem tq_cell {t : Ct} {G H : Hp} {ρ : List Addr} {a : Addr} {d : D} (h : cell t G ρ H a d) {o : HO} (q : Tq o) (e : H a = some o) : False := by
  cases d with
  | lst ds => obtain ⟨vs, e1, _⟩ := h; rw [e1] at e; cases e; exact q
  | dic kvs => obtain ⟨vs, e1, _⟩ := h; rw [e1] at e; cases e; exact q
  | dit kvs => obtain ⟨vs, e1, _⟩ := h; rw [e1] at e; cases e; exact q
  | obj c ds => obtain ⟨_, _, _, _, e1, _⟩ := h; rw [e1] at e; cases e; exact q
  | din kvs => obtain ⟨_, e1, _, z1, z2, _⟩ := h; rw [e1] at e; cases e; obtain ⟨_, _, _, q⟩ := q; exact dn_ne z1 z2 q
  | _ => exact h
theorem inl_ok {al : Bool} (R : Rel t G ρ env μ σ H) (hT : ∀ a o, Tq o → G a = some o → J a = some o) (hA : al = true → Same G J) (hC : ∀ a ∈ ρ, ∀ o, H a = some o → J a = some o) :
    ∀ (k : Nat) (d d' : D) (v : V), rep t G ρ d v → inl al μ k d = some d' → rep t J ρ2 d' v := by
  intro k
  induction k with
  | zero => intro d d' v r e; cases e
  | succ k ih =>
    intro d d' v r e
    cases d with
    | non => cases e; exact r
    | bl _ => cases e; exact r
    | int _ => cases e; exact r
    | str _ => cases e; exact r
    | tup ds =>
      simp only [inl, Option.map_eq_some_iff] at e
      obtain ⟨xs, e, rfl⟩ := e
      obtain ⟨a, vs, e1, q, rs⟩ := r
      exact ⟨a, vs, e1, hT _ _ trivial q, inl_all ih ds xs vs rs e⟩
    | lst ds =>
      unfold inl at e
      split at e
      · rename_i ha
        simp only [Option.map_eq_some_iff] at e
        obtain ⟨xs, e, rfl⟩ := e
        obtain ⟨a, vs, e1, q, rs⟩ := r
        exact ⟨a, vs, e1, hA ha _ _ q, inl_all ih ds xs vs rs e⟩
      · cases e
    | scr ds =>
      unfold inl at e
      split at e
      · rename_i ha
        simp only [Option.map_eq_some_iff] at e
        obtain ⟨xs, e, rfl⟩ := e
        obtain ⟨a, vs, e1, q, rs⟩ := r
        exact ⟨a, vs, e1, Same.seq (hA ha) q, inl_all ih ds xs vs rs e⟩
      · cases e
    | dic kvs =>
      unfold inl at e
      split at e
      · rename_i ha
        simp only [Option.map_eq_some_iff] at e
        obtain ⟨xs, e, rfl⟩ := e
        obtain ⟨a, ks, e1, q, rs⟩ := r
        exact ⟨a, ks, e1, Same.rd (hA ha) q, inl_allk ih kvs xs ks rs (by simpa using e)⟩
      · cases e
    | dit kvs =>
      unfold inl at e
      split at e
      · rename_i ha
        simp only [Option.map_eq_some_iff] at e
        obtain ⟨xs, e, rfl⟩ := e
        obtain ⟨a, ks, e1, q, rs⟩ := r
        exact ⟨a, ks, e1, hA ha _ _ q, inl_allkT ih kvs xs ks rs (by simpa using e)⟩
      · cases e
    | obj c ds =>
      unfold inl at e
      split at e
      · rename_i ha
        simp only [Option.map_eq_some_iff] at e
        obtain ⟨xs, e, rfl⟩ := e
        obtain ⟨a, C, dx, vs, e1, m, q, l, rs⟩ := r
        exact ⟨a, C, dx, vs, e1, m, hA ha _ _ q, l, inl_all ih ds xs vs rs e⟩
      · cases e
    | tpz ds =>
      unfold inl at e
      simp only [Option.map_eq_some_iff] at e
      obtain ⟨xs, e, rfl⟩ := e
      obtain ⟨a, vs, e1, ⟨oz, q, qz⟩, rs⟩ := r
      exact ⟨a, vs, e1, ⟨oz, hT _ _ trivial q, qz⟩, inl_all ih ds xs vs rs e⟩
    | din _ => exact r.elim
    | exc c ds =>
      unfold inl at e
      simp only [Option.map_eq_some_iff] at e
      obtain ⟨xs, e, rfl⟩ := e
      obtain ⟨a, C, dx, e1, m, q, rs⟩ := r
      refine ⟨a, C, dx, e1, m, hT _ _ ⟨_, _, _, rfl⟩ q, rs.imp (fun z => ?_) fun ⟨d, vs, x1, x2, l, rs⟩ => ⟨d, vs, x1, hT _ _ trivial x2, l, inl_all ih ds xs vs rs e⟩⟩
      obtain ⟨rfl, z⟩ := z
      cases e
      exact ⟨rfl, z⟩
    | ref n =>
      obtain ⟨a, e1, rfl⟩ := r
      have ha := List.mem_of_getElem? e1
      unfold inl at e
      split at e
      · rename_i ds q
        simp only [Option.map_eq_some_iff] at e
        obtain ⟨xs, e, rfl⟩ := e
        obtain ⟨vs, q, rs⟩ := R.cells n a _ e1 q
        exact ⟨a, vs, rfl, hC a ha _ q, inl_all ih ds xs vs rs e⟩
      · rename_i kvs q
        simp only [Option.map_eq_some_iff] at e
        obtain ⟨xs, e, rfl⟩ := e
        obtain ⟨ks, q, rs⟩ := R.cells n a _ e1 q
        exact ⟨a, ks, rfl, Rd.of (hC a ha _ q), inl_allk ih kvs xs ks rs (by simpa using e)⟩
      · rename_i kvs q
        simp only [Option.map_eq_some_iff] at e
        obtain ⟨xs, e, rfl⟩ := e
        obtain ⟨ks, q, rs⟩ := R.cells n a _ e1 q
        exact ⟨a, ks, rfl, hC a ha _ q, inl_allkT ih kvs xs ks rs (by simpa using e)⟩
      · rename_i c ds q
        simp only [Option.map_eq_some_iff] at e
        obtain ⟨xs, e, rfl⟩ := e
        obtain ⟨C, dx, vs, m, q, l, rs⟩ := R.cells n a _ e1 q
        exact ⟨a, C, dx, vs, rfl, m, hC a ha _ q, l, inl_all ih ds xs vs rs e⟩
      · cases e
theorem vw_ok (R : Rel t G ρ env μ σ H) (hA : Same G J) (hC : ∀ a ∈ ρ, ∀ o, H a = some o → J a = some o) {d d' : D} {v : V} (r : rep t G ρ d v) (e : vw μ d = some d') : rep t J ρ2 d' v := by
  unfold vw at e
  split at e
  · rename_i h
    cases e
    exact rep_nr hA d v h r
  · exact inl_ok R (fun _ _ _ q => hA _ _ q) (fun _ => hA) hC 12 d d' v r e
theorem vws_ok (R : Rel t G ρ env μ σ H) (hA : Same G J) (hC : ∀ a ∈ ρ, ∀ o, H a = some o → J a = some o) : ∀ {ds ds' : List D} {vs : List V}, reps t G ρ ds vs → vws μ ds = some ds' → reps t J ρ2 ds' vs
  | [], _, _, r, e => by cases e; exact r
  | d :: ds, ds', _, ⟨v, r, e1, h1, h2⟩, e => by
    unfold vws at e
    split at e
    · rename_i x xs a b
      cases e
      exact ⟨v, r, e1, vw_ok R hA hC h1 a, vws_ok R hA hC h2 b⟩
    · cases e
theorem vws_len {μ : Mu} : ∀ {ds ds' : List D}, vws μ ds = some ds' → ds'.length = ds.length := by
  intro ds
  induction ds with
  | nil => intro ds' e; cases e; rfl
  | cons d ds ih =>
    intro ds' e
    unfold vws at e
    split at e
    · rename_i x xs a b
      cases e
      rw [List.length_cons, List.length_cons, ih b]
    · cases e
theorem scal_rep {d : D} {v : V} (h : scal d = true) (r : rep t G ρ d v) : rep t J ρ2 d v := by
  cases d <;> first | exact r | cases h
theorem vf_ok (R : Rel t G ρ env μ σ H) (hT : ∀ a o, Tq o → G a = some o → J a = some o) (hC : ∀ a ∈ ρ, ∀ o, H a = some o → J a = some o) {d d' : D} {v : V} (r : rep t G ρ d v) (e : vf μ d = some d') : rep t J ρ2 d' v := by
  unfold vf at e
  split at e
  · rename_i h
    cases e
    exact scal_rep h r
  · exact inl_ok R hT (fun h => by cases h) hC 12 d d' v r e
end
section
variable {t : Ct} {G H H' Gc G' : Hp} {ρ ρ' : List Addr} {env env' : Ev} {μ μ' : Mu} {σ σ' : St}
open Classical in
noncomputable def backG (ρ ρ' : List Addr) (H' G' : Hp) : Hp := fun b => if b ∈ ρ then none else if b ∈ ρ' then H' b else G' b
theorem back (R : Rel t G ρ env μ σ H) (h1 : Same G Gc) (h2 : ∀ a o, Gc a = some o → G a = some o ∨ a ∈ ρ) (e : Ext Gc [] H G' ρ' H') (R' : Rel t G' ρ' env' μ' σ' H') :
    Ext G ρ H (backG ρ ρ' H' G') ρ H' ∧ Rel t (backG ρ ρ' H' G') ρ env μ σ H' ∧ (∀ a o, G' a = some o → a ∉ ρ → backG ρ ρ' H' G' a = some o) ∧ (∀ a ∈ ρ', ∀ o, H' a = some o → backG ρ ρ' H' G' a = some o) ∧
      (∀ a o, G' a = some o → a ∈ ρ → ∃ o', H a = some o' ∧ Gc a = some o) := by
  have dis : ∀ a ∈ ρ, a ∉ ρ' := fun a ha hb => by
    rcases e.fresh a hb with z | z
    · simp at z
    · exact R.ρH ha z
  have GG : Same G (backG ρ ρ' H' G') := fun a o q => by
    unfold backG
    have na : a ∉ ρ := fun z => by rw [R.gn a z] at q; cases q
    have nb : a ∉ ρ' := fun z => by
      have := e.sub a o (h1 a o q)
      rw [R'.gn a z] at this; cases this
    rw [if_neg na, if_neg nb]
    exact e.sub a o (h1 a o q)
  have SG : Same (backG ρ ρ' H' G') H' := fun a o q => by
    unfold backG at q
    split at q
    · cases q
    · split at q
      · exact q
      · exact R'.sub a o q
  have HH : ∀ a o, H a = some o → (∀ ps, o ≠ .tbl ps) → H' a = some o := fun a o q nt => e.frame a o q (by simp) nt
  have HC : ∀ a ∈ ρ, ∀ o, H a = some o → H' a = some o := fun a ha o q => HH a o q (R.nt ha q)
  have TT : ∀ P q, TabG G H P q → TabG (backG ρ ρ' H' G') H' P q := fun P q h => by
    obtain ⟨z0, ps, z1, z2, z3⟩ := e.tab P q (h.mono h1 (.refl _) fun b ps z g => by
      cases w : Gc b with
      | none => rfl
      | some o =>
        rcases h2 b o w with y | y
        · rw [g] at y; cases y
        · exact absurd z (R.ρB y))
    refine ⟨by
      unfold backG
      split
      · rfl
      · rw [if_neg (fun w => R'.ρB w z1)]; exact z0, ps, z1, z2, fun pos cv hc => ?_⟩
    obtain ⟨c, y1, y2⟩ := z3 pos cv hc
    refine ⟨c, y1, ?_⟩
    have na : c ∉ ρ := fun z => by
      cases w : H c with
      | none => exact R.ρH z w
      | some o =>
        have v := HC c z o w
        rw [R'.sub c _ y2] at v
        cases v
        exact R.ρC z w
    unfold backG
    rw [if_neg na, if_neg (fun z => by rw [R'.gn c z] at y2; cases y2)]
    exact y2
  refine ⟨⟨GG, .refl _, fun a o q _ => HH a o q, fun _ h => .inl h, e.there, fun a o q => ?_, TT, e.tbk⟩, ⟨SG, R.nd, fun a ha => ?_, R.len, fun n a d e1 e2 => (R.cells n a d e1 e2).mono GG (.refl _) (HC a (List.mem_of_getElem? e1)), R.slen, fun i d q => ?_, fun p hp => (R.tab p hp).up GG TT⟩, fun a vs q na => ?_, fun a ha o q => ?_, fun a o q ha => ?_⟩
  · unfold backG at q
    split at q
    · cases q
    · rename_i na
      split at q
      · rename_i hb
        rcases e.fresh a hb with z | z
        · simp at z
        · exact .inr (.inl z)
      · rcases e.gf a o q with z | z | ⟨_, z⟩
        · rcases h2 a o z with y | y
          · exact .inl y
          · exact absurd y na
        · exact .inr (.inl z)
        · exact .inr (.inr ⟨na, z⟩)
  · unfold backG
    rw [if_pos ha]
  · obtain ⟨v, e1, r⟩ := R.slots i d q
    exact ⟨v, e1, rep.mono GG (.refl _) _ _ r⟩
  · unfold backG
    rw [if_neg na]
    have nb : a ∉ ρ' := fun z => by rw [R'.gn a z] at q; cases q
    rw [if_neg nb]; exact q
  · unfold backG
    rw [if_neg (fun z => dis a z ha), if_pos ha]; exact q
  · rcases e.gf a o q with z | z | ⟨_, z, _, rfl⟩
    · cases y : H a with
      | none => exact absurd y (R.ρH ha)
      | some o' => exact ⟨o', rfl, z⟩
    · exact absurd z (R.ρH ha)
    · exact absurd z (R.ρT ha)
end
end Lr
namespace Lr
open PySem L2
open PyProof.Rows (envOfC)
noncomputable abbrev GF := List D → Mu → Res (D × Mu)
noncomputable def bodyF (n : Nat) (m : SM) : GF := fun ds μ => match m (ds.map some ++ List.replicate (n - ds.length) none) μ with
  | some (.rt d μ') => .ok (d, μ')
  | some (.nx _ μ') => .ok (.non, μ')
  | some (.xc c fs _ μ') => .ex c fs μ'
  | _ => .no
section
variable (t : Ct) (G : Hp) (ρ : List Addr) (H : Hp)
noncomputable def KR (Q : VK) (r : D × Mu) : Prop := ∀ v H' ρ' G', Ext G ρ H G' ρ' H' → Rel t G' ρ' [] r.2 [] H' → rep t G' ρ' r.1 v → Q v H'
noncomputable def KRX (E : XK) (c : Nat) (fs : List D) (μ' : Mu) : Prop := ∀ C dx H' ρ' G', t.mg (t.nm.cn c) = some (.ref C) → Ext G ρ H G' ρ' H' → Rel t G' ρ' [] μ' [] H' → xfs t G' ρ' H' c fs dx → E (.ref C) dx H'
end
noncomputable def spG (t : Ct) (n : Nat) (F : GF) : Sp := fun vs H Q E => ∃ G ρ μ ds, ds.length = n ∧ Rel t G ρ [] μ [] H ∧ reps t G ρ ds vs ∧ Po (F ds μ) (KR t G ρ H Q) (KRX t G ρ H E)
noncomputable def spG0 (t : Ct) (n : Nat) (F : GF) : Sp := fun vs H Q _ => ∃ G ρ μ ds, ds.length = n ∧ Rel t G ρ [] μ [] H ∧ reps t G ρ ds vs ∧ Po (F ds μ) (KR t G ρ H Q) (fun _ _ _ => False)
section
variable {P : Program} {w : World} {K : PySem.W.Frag} {mg : Str → Option Value} {base : Heap} {nm : Nm}
theorem getD_some {α : Type} {ds : List α} {n i : Nat} {d : α} (h : (ds.map some ++ List.replicate n none)[i]? = some (some d)) : ds[i]? = some d := by
  by_cases hi : i < ds.length
  · rw [List.getElem?_append_left (by simpa using hi), List.getElem?_map] at h
    cases q : ds[i]? with
    | none => rw [q] at h; cases h
    | some x => rw [q] at h; cases h; rfl
  · rw [List.getElem?_append_right (by simpa using hi), List.getElem?_replicate] at h
    split at h <;> cases h
theorem rel_start {t : Ct} {G H : Hp} {ρ : List Addr} {μ : Mu} {ds : List D} {vs : List V} {N : List Str} (R : Rel t G ρ [] μ [] H) (r : reps t G ρ ds vs) (hl : ds.length ≤ N.length) : Rel t G ρ (ds.map some ++ List.replicate (N.length - ds.length) none) μ (L2.start N vs) H := by
  refine R.reslot ?_ fun i d e => ?_
  · unfold L2.start
    simp [r.length]
  · obtain ⟨v, h1, h2⟩ := r.get (getD_some e)
    refine ⟨v, ?_, h2⟩
    unfold L2.start
    rw [List.getElem?_append_left (by simpa using (List.getElem?_eq_some_iff.mp h1).1), List.getElem?_map, h1]
    rfl
theorem fn_gen0 {x qual : Str} {st : Stmt} {f : Addr} {fd : FuncData} {N ps : List Str} {k : Nat} {m : SM} (F : Fun K x qual st f fd) (S : FnScope N ps (defScope st)) (hl : ps.length ≤ N.length)
    (hb : ∀ (cdv : Value) (A : Around) (outer : List Env) (s : Shared) (H : Hp) (E : XK), Room k (A.deeper (envOfC qual (defScope st) s.heap.objs.size f cdv)) →
      BV nm (cxOf CX0 P w K mg base N qual (defScope st) f cdv A outer s H E).nox (fun _ _ _ _ => False) (defBody st) m) :
    FnOk P w K mg base CX0 (k + 1) f fd ps (spG0 ⟨K, mg, nm, w⟩ ps.length (bodyF N.length m)) := by
  refine F.ok S (fun vs H Q E h => ?_) (fun cdv A outer s H vs Q E hr h => ?_)
  · obtain ⟨G, ρ, μ, ds, hn, _, r, _⟩ := h
    rw [r.length, hn]
  · obtain ⟨G, ρ, μ, ds, hn, R, r, h⟩ := h
    refine ⟨_, pss_wp, (hb cdv A outer s H E hr).run _ μ _ H ρ G _ (rel_start (N := N) R r (by omega)) ?_⟩
    unfold bodyF at h
    cases q : m (ds.map some ++ List.replicate (N.length - ds.length) none) μ with
    | none => rw [q] at h; exact h
    | some o =>
      rw [q] at h
      cases o with
      | rt d μ' => exact fun v H' ρ' G' x R r => h v H' ρ' G' x R r
      | nx e μ' => exact fun σ' H' ρ' G' x R => h .non H' ρ' G' x R.bare rfl
      | bk e μ' => exact h.elim
      | ct e μ' => exact h.elim
      | xc c fs e μ' => exact h.elim
end
noncomputable def CallOk (nm : Nm) (X : Cx) (W : XW) (n : Nat) (F : GF) (f : FN) : Prop := ∀ env μ σ H ρ G Q E ds vs, Rel (ct nm X) G ρ env μ σ H → reps (ct nm X) G ρ ds vs → ds.length = n →
  Po (f ds μ) (KE (ct nm X) env σ G ρ H Q) (KX (ct nm X) W env σ G ρ H) → spG0 (ct nm X) n F vs H Q E
noncomputable def retW (v : Mu → D → Option D) (μ : Mu) (r : Res (D × Mu)) : Res (D × Mu) := match r with
  | .ok r => match v r.2 r.1 with
    | some d => .ok (d, μ)
    | none => .no
  | _ => .no
noncomputable def pureC (F : GF) : FN := fun ds μ => if nrs ds then retW vw μ (F ds []) else match vws μ ds with
  | some ds' => retW vf μ (F ds' [])
  | none => .no
section
variable {nm : Nm} {X : Cx} {W : XW} {n : Nat} {F : GF}
theorem Rel.empty {t : Ct} {G H : Hp} (h : Same G H) (hT : ∀ p ∈ t.nm.tb, TabH G H p.1 p.2) : Rel t G [] [] [] [] H := ⟨h, List.nodup_nil, fun _ h => by simp at h, rfl, fun n a d e => by simp at e, rfl, fun i d e => by simp at e, hT⟩
open Classical in
theorem callOk_pure : CallOk nm X W n F (pureC F) := by
  intro env μ σ H ρ G Q E ds vs R r hn P
  unfold pureC at P
  split at P
  · rename_i hr
    refine ⟨G, [], [], ds, hn, Rel.empty R.sub R.tab, reps_nr (Same.refl _) ds vs hr r, ?_⟩
    unfold retW at P
    split at P
    · rename_i rr q
      rw [q]
      split at P
      · rename_i d hd
        intro v H' ρ' G' e R' rv
        obtain ⟨b1, b2, b3, b4, b5⟩ := back R (Same.refl _) (fun a o h => .inl h) e R'
        refine P v H' ρ _ b1 b2 ?_
        have nG : ∀ a o, G' a = some o → a ∉ ρ := fun a o h z => by
          obtain ⟨_, _, y⟩ := b5 a o h z
          rw [R.gn a z] at y; cases y
        refine vw_ok R' (fun a o h => ?_) b4 rv hd
        unfold backG
        rw [if_neg (nG a o h), if_neg (fun z => by rw [R'.gn a z] at h; cases h)]
        exact h
      · exact P.elim
    · exact P.elim
  · split at P
    · rename_i ds' e1
      have s1 : Same G (fun b => if b ∈ ρ then H b else G b) := fun a o h => by
        show (if a ∈ ρ then H a else G a) = _
        split
        · exact R.sub a o h
        · exact h
      have s2 : Same (fun b => if b ∈ ρ then H b else G b) H := fun a o h => by
        have h : (if a ∈ ρ then H a else G a) = some o := h
        split at h
        · exact h
        · exact R.sub a o h
      refine ⟨fun b => if b ∈ ρ then H b else G b, [], [], ds', by rw [vws_len e1, hn], Rel.empty s2 (tabs_of R.tab s1 (.refl _) R.nb), vws_ok R s1 (fun a ha o h => by show (if a ∈ ρ then H a else G a) = _; rw [if_pos ha]; exact h) r e1, ?_⟩
      unfold retW at P
      split at P
      · rename_i rr q
        rw [q]
        split at P
        · rename_i d hd
          intro v H' ρ' G' e R' rv
          obtain ⟨b1, b2, b3, b4, b5⟩ := back R s1 (fun a o h => by
            have h : (if a ∈ ρ then H a else G a) = some o := h
            split at h
            · rename_i ha; exact .inr ha
            · exact .inl h) e R'
          refine P v H' ρ _ b1 b2 ?_
          refine vf_ok R' (fun a to tq h => b3 a to h fun z => ?_) b4 rv hd
          obtain ⟨o', h1, h2⟩ := b5 a _ h z
          have h2 : (if a ∈ ρ then H a else G a) = some to := h2
          rw [if_pos z] at h2
          obtain ⟨m, hm, em⟩ := List.getElem_of_mem z
          exact tq_cell (R.cells m a (μ[m]'(by rw [← R.len]; exact hm)) (by rw [List.getElem?_eq_getElem hm, em]) (by simp)) tq h2
        · exact P.elim
      · exact P.elim
    · exact P.elim
end
section
variable {nm : Nm} {X : Cx} {W : XW} {e o : Expr} {es : List Expr} {pos p apos : Pos} {ms : MA} {ma : M} {k n : Nat} {f C : Addr} {fd : FuncData} {ps : List Str} {F : GF} {fn : FN} {x m : Str}
theorem ev_call (Fk : FnOk X.prog X.w X.K X.mg X.base CX0 k f fd ps (spG0 (ct nm X) n F)) (hc : CallOk nm X W n F fn) (hr : Room k X.A) (hm : X.mg x = some (.ref f)) (hk : PySem.W.keepIn X.K (.ref f) = true) (hb : Binds X.K fd ps []) (ha : AV nm X W (e :: es) ms) (hn : es.length + 1 = n := by rfl)
    (hg : Gl X x := by rfl) (hdb : (x == ("__debug__" : Str)) = false := by decide) (he : starEach (e :: es) X.env = (false, eval e X.env) :: starEach es X.env := by rfl) (hpl : (backTo pos (starEach es X.env)).any (·.1) = false := by rfl) :
    EV nm X W (.Call (.Name x p) (e :: es) [] pos) (cF fn ms) :=
  ev_of (pe_call Fk hr hg hm hk hb .nil (pass0 (X := X)) pa_wp hdb he hpl) fun env μ σ H ρ G Q R P => by
  unfold cF at P
  cases h : ms env μ with
  | ok y =>
    have hl := ha.len env μ y h
    rw [h] at P
    refine ha.run env μ σ H ρ G _ R ?_
    rw [h]
    intro vs H1 ρ1 G1 e1 R1 r1
    rw [List.append_nil]
    exact hc env y.2 σ H1 ρ1 G1 Q _ y.1 vs R1 r1 (by rw [hl]; exact hn) (Po.reE e1 P)
  | ex c ds μ' =>
    rw [h] at P
    refine ha.run env μ σ H ρ G _ R ?_
    rw [h]
    exact P
  | no =>
    rw [h] at P
    exact P.elim
noncomputable def oof (d : D) (μ : Mu) : Option (Nat × List D) := match d with
  | .obj c ds => some (c, ds)
  | .ref n => match μ[n]? with
    | some (.obj c ds) => some (c, ds)
    | _ => none
  | _ => none
theorem zip_lookup {N : List Str} (nd : N.Nodup) {x : Str} : ∀ {i : Nat} {vs : List V} {v : V}, N[i]? = some x → vs[i]? = some v → (N.zip vs).lookup x = some v := by
  induction N with
  | nil => intro i vs v h; simp at h
  | cons y N ih =>
    intro i vs v h1 h2
    cases vs with
    | nil => simp at h2
    | cons u vs =>
      cases i with
      | zero => simp at h1 h2; subst h1 h2; simp [List.zip_cons_cons, List.lookup]
      | succ i =>
        simp at h1 h2
        have hne : (x == y) = false := by
          rw [beq_eq_false_iff_ne]
          rintro rfl
          exact (List.nodup_cons.mp nd).1 (List.mem_of_getElem? h1)
        rw [List.zip_cons_cons, List.lookup_cons, hne]
        exact ih (List.nodup_cons.mp nd).2 h1 h2
structure ClsT (nm : Nm) (K : PySem.W.Frag) (mg : Str → Option Value) (c : Nat) (C : Addr) : Prop where
  at_ : mg (nm.cn c) = some (.ref C)
  cl : Cls K C
  nf : ∀ x ∈ nm.cf c, NoAttr K C x
  nd : (nm.cf c).Nodup
  few : (nm.cf c).length < 900
noncomputable def dFld (c i : Nat) : F1 := fun d μ => match oof d μ with
  | some (c', ds) => if c' = c then match ds[i]? with
    | some x => .ok (x, μ)
    | none => .no
    else .no
  | none => .no
noncomputable def cMt (c : Nat) (f : FN) (a : M) (ms : MA) : M := fun env μ => (a env μ).bind fun x => match oof x.1 x.2 with
  | some (c', _) => if c' = c then (ms env x.2).bind fun y => f (x.1 :: y.1) y.2 else .no
  | none => .no
end
end Lr
namespace Lr
open PySem L2
section
variable {nm : Nm} {X : Cx} {W : XW} {n c : Nat} {C : Addr} {F : GF}
end
section
variable {nm : Nm} {X : Cx} {W : XW} {e o i : Expr} {es : List Expr} {pos p apos pos' : Pos} {ms : MA} {ma mo mi : M} {k n c : Nat} {f C : Addr} {fd : FuncData} {ps : List Str} {F : GF} {fn : FN} {x m : Str}
noncomputable def setF (i : Nat) (d : D) (ds : List D) : Option (List D) := if i < ds.length then some (ds.set i d) else if i = ds.length then some (ds ++ [d]) else none
noncomputable def sFl (c i : Nat) (mo ma : M) : SM := fun env μ => eThen ((ma env μ).bind fun x => (mo env x.2).bind fun y => .ok (x.1, y)) env fun r => match r.2.1 with
  | .ref n => match r.2.2[n]? with
    | some (.obj c' ds) => if c' = c then (setF i r.1 ds).map fun ds' => .nx env (r.2.2.set n (.obj c ds')) else none
    | _ => none
  | _ => none
end
end Lr
namespace Lr
open PySem L2
noncomputable def wp0 (own : List Nat) (env : Ev) : Ev := env.mapIdx fun i o => if own.contains i then none else o
noncomputable def lcGo (T : Tg) (tst : MT) (elt : M) (s : Src) (env : Ev) : Nat → Nat → List D → Mu → Res (List D × Mu)
  | 0, _, _, _ => .no
  | f + 1, i, acc, μ => match items s μ with
    | none => .no
    | some ds => match ds[i]? with
      | none => .ok (acc, μ)
      | some d => match setT T d env with
        | none => .no
        | some e1 => match tst e1 μ with
          | .ok (true, μ2) => match elt e1 μ2 with
            | .ok (y, μ3) => if acc.length < lineN then lcGo T tst elt s env f (i + 1) (acc ++ [y]) μ3 else .no
            | _ => .no
          | .ok (false, μ2) => lcGo T tst elt s env f (i + 1) acc μ2
          | _ => .no
noncomputable def cLc (fl : Bool) (T : Tg) (it : MI) (tst : MT) (elt : M) (own : List Nat) : M := fun env μ => (it env μ).bind fun x => (lcGo T tst elt x.1 (wp0 own env) fuel 0 [] x.2).bind fun r => .ok (mkL fl r.1 r.2)
noncomputable def tTrue : MT := fun _ μ => .ok (true, μ)
section
variable {t : Ct} {G G1 H H1 : Hp} {ρ ρ1 : List Addr} {env : Ev} {μ : Mu} {σ : St} {a : Addr} {o : HO}
theorem Rel.other (R : Rel t G ρ env μ σ H) (hG : G a = none) (hρ : a ∉ ρ) (hT : ∀ ps, H a ≠ some (.tbl ps)) : Rel t G ρ env μ σ (upd H a o) :=
  ⟨fun b u e => by rw [upd_ne (ne_of_none e hG)]; exact R.sub b u e, R.nd, R.gn, R.len, fun n b d e1 e2 => (R.cells n b d e1 e2).mono (.refl _) (.refl _) fun u e => by
    rw [upd_ne (fun z => hρ (by rw [← z]; exact List.mem_of_getElem? e1))]; exact e, R.slen, R.slots, tabs_of R.tab (.refl _) (.upd hT) (.refl _ _)⟩
theorem Ext.other (e : Ext G1 ρ1 H1 G ρ H) (h : H1 a = none) (hT : ∀ ps, H a ≠ some (.tbl ps)) : Ext G1 ρ1 H1 G ρ (upd H a o) :=
  ⟨e.sub, e.pre, fun b u q n nt => by rw [upd_ne (ne_of_none q h)]; exact e.frame b u q n nt, e.fresh, fun b q => by
    by_cases hb : b = a
    · subst hb; rw [upd_same]; simp
    · rw [upd_ne hb]; exact e.there b q, e.gf, fun P q z => (e.tab P q z).mono (.refl _) (.upd hT) (.refl _ _), fun b ps z => by
    obtain ⟨ps', y⟩ := e.tbk b ps z
    exact ⟨ps', TbS.upd hT _ _ y⟩⟩
theorem Rel.toG (R : Rel t G ρ env μ σ H) (hG : G a = none) (hρ : a ∉ ρ) (ha : H a = some o) (hT : ∀ ps, H a ≠ some (.tbl ps)) : Rel t (upd G a o) ρ env μ σ H ∧ Same G (upd G a o) := by
  have sG : Same G (upd G a o) := fun b u e => by rw [upd_ne (ne_of_none e hG)]; exact e
  refine ⟨⟨fun b u e => ?_, R.nd, fun b hb => ?_, R.len, fun n b d e1 e2 => (R.cells n b d e1 e2).mono sG (.refl _) fun _ h => h, R.slen, fun i d e => ?_, tabs_of R.tab sG (.refl _) (.upd hT)⟩, sG⟩
  · by_cases hb : b = a
    · subst hb; rw [upd_same] at e; rw [← e]; exact ha
    · rw [upd_ne hb] at e; exact R.sub b u e
  · rw [upd_ne (fun z => hρ (by rw [← z]; exact hb))]; exact R.gn b hb
  · obtain ⟨v, h1, h2⟩ := R.slots i d e
    exact ⟨v, h1, rep.mono sG (.refl _) _ _ h2⟩
theorem Rel.toC (R : Rel t G ρ env μ σ H) {c : D} (hG : G a = none) (hρ : a ∉ ρ) (hc : cell t G ρ H a c) : Rel t G (ρ ++ [a]) env (μ ++ [c]) σ H := by
  have pr : Pre ρ (ρ ++ [a]) := ⟨[a], rfl⟩
  refine ⟨R.sub, ?_, fun b hb => ?_, by simp [R.len], fun n b d' e1 e2 => ?_, R.slen, fun i d e => ?_, R.tab⟩
  · rw [List.nodup_append]
    exact ⟨R.nd, by simp, fun x hx y hy z => by simp at hy; subst hy; subst z; exact hρ hx⟩
  · rcases List.mem_append.mp hb with h | h
    · exact R.gn b h
    · simp at h; subst h; exact hG
  · by_cases hn : n < μ.length
    · rw [List.getElem?_append_left (by rw [R.len]; exact hn)] at e1
      rw [List.getElem?_append_left hn] at e2
      exact (R.cells n b d' e1 e2).mono (.refl _) pr fun _ h => h
    · have : n = μ.length := by
        have := (List.getElem?_eq_some_iff.mp e2).1
        simp at this; omega
      subst this
      rw [← R.len] at e1
      simp at e1 e2
      subst e1 e2
      exact hc.mono (.refl _) pr fun _ h => h
  · obtain ⟨v, h1, h2⟩ := R.slots i d e
    exact ⟨v, h1, rep.mono (.refl _) pr _ _ h2⟩
theorem KE.newL {fl : Bool} {ds : List D} {vs : List V} {Q : VK} (R : Rel t G ρ env μ σ H) (e : Ext G1 ρ1 H1 G ρ H) (h1 : H1 a = none) (hG : G a = none) (hρ : a ∉ ρ) (ha : H a = some (.lst vs)) (r : reps t G ρ ds vs)
    (P : KE t env σ G1 ρ1 H1 Q (mkL fl ds μ)) : Q (.ref a) H := by
  cases fl with
  | true =>
    have R2 := R.toC (c := .lst ds) hG hρ ⟨vs, ha, r⟩
    refine P (.ref a) H (ρ ++ [a]) G ⟨e.sub, e.pre.trans ⟨[a], rfl⟩, e.frame, fun b hb => ?_, e.there, e.gf, e.tab, e.tbk⟩ R2 ⟨a, by rw [← R.len]; simp, rfl⟩
    rcases List.mem_append.mp hb with h | h
    · exact e.fresh b h
    · simp at h; subst h; exact .inr h1
  | false =>
    obtain ⟨R2, s⟩ := R.toG hG hρ ha (fun ps z => nomatch ha.symm.trans z)
    refine P (.ref a) H ρ (upd G a (.lst vs)) ⟨e.sub.trans s, e.pre, e.frame, e.fresh, e.there, fun b o q => ?_, fun P q z => (e.tab P q z).mono s (.refl _) (.upd fun ps z => nomatch ha.symm.trans z), e.tbk⟩ R2 ⟨a, vs, rfl, upd_same, reps.mono s (.refl _) _ _ r⟩
    by_cases hb : b = a
    · subst hb; exact .inr (.inl h1)
    · rw [upd_ne hb] at q; exact e.gf b o q
end
section
variable {nm : Nm} {X : Cx} {W : XW} {elt tg iter c : Expr} {ifs : List Expr} {scope : Scope} {own : List (Str × Nat)} {pos spos py : Pos} {mi : MI} {T : Tg} {tst : MT} {me : M} {fl : Bool}
noncomputable def aE (X : Cx) (scope : Scope) (e : Expr) : TE := fun σ H Q => ∀ (s : Shared) (H0 : Hp) (C : Addr) (cl : List (Str × Addr)) (fp : List Addr), wpE (X.blk s H0 scope (compEnvC scope cl C X.env) fp) e σ H Q
noncomputable def aG (X : Cx) (scope : Scope) (e : Expr) : TG := fun v σ H Q => ∀ (s : Shared) (H0 : Hp) (C : Addr) (cl : List (Str × Addr)) (fp : List Addr), wpG (X.blk s H0 scope (compEnvC scope cl C X.env) fp) e v σ H Q
theorem wipe_at (τ : St) (vs : List Nat) (j : Nat) : (wipe τ vs)[j]? = if j ∈ vs then (if j < τ.length then some none else none) else τ[j]? := by
  by_cases hj : j ∈ vs
  · rw [if_pos hj]
    by_cases hlt : j < τ.length
    · rw [if_pos hlt]
      have hw : j < (wipe τ vs).length := by rw [wipe_length]; exact hlt
      cases q : (wipe τ vs)[j]? with
      | none => rw [List.getElem?_eq_none_iff] at q; omega
      | some o =>
        cases o with
        | none => rfl
        | some x => exact absurd hj (wipe_some q).2
    · rw [if_neg hlt, List.getElem?_eq_none_iff, wipe_length]; omega
  · rw [if_neg hj, wipe_out hj]
theorem wipe_wipe (τ : St) (vs : List Nat) : wipe (wipe τ vs) vs = wipe τ vs := by
  refine List.ext_getElem? fun j => ?_
  rw [wipe_at, wipe_at, wipe_length]
  split <;> rfl
theorem wipe_rel {t : Ct} {G H ρ env μ σ} (R : Rel t G ρ env μ σ H) (vs : List Nat) : Rel t G ρ (wp0 vs env) μ (wipe σ vs) H := by
  refine R.reslot (by rw [wipe_length]; simp [wp0, R.slen]) fun i d e => ?_
  unfold wp0 at e
  rw [List.getElem?_mapIdx] at e
  cases q : env[i]? with
  | none => rw [q] at e; cases e
  | some o =>
    rw [q] at e
    simp only [Option.map_some, Option.some.injEq] at e
    split at e
    · cases e
    · rename_i hn
      subst e
      obtain ⟨v, h1, h2⟩ := R.slots i d q
      refine ⟨v, ?_, h2⟩
      rw [wipe_out (by simpa using hn)]
      exact h1
theorem lc_run {tt : TT} (hT : ∀ i ∈ T.slots, i ∈ own.map (·.2)) (htt : ∀ env μ σ H ρ G Q, Rel (ct nm X) G ρ env μ σ H → Po (tst env μ) (KT (ct nm X) env σ G ρ H Q) (fun _ _ _ => False) → tt σ H Q)
    (hg : ∀ (s : Shared) (H0 : Hp) (C : Addr) (cl : List (Str × Addr)) (fp : List Addr), GV nm (X.blk s H0 scope (compEnvC scope cl C X.env) fp) tg T)
    (he : ∀ (s : Shared) (H0 : Hp) (C : Addr) (cl : List (Str × Addr)) (fp : List Addr), EV nm (X.blk s H0 scope (compEnvC scope cl C X.env) fp) (fun _ _ _ _ => False) elt me)
    (hi : IV nm X W tg iter mi) {env μ σ H ρ G Q} (R : Rel (ct nm X) G ρ env μ σ H) (P : Po (cLc fl T mi tst me (own.map (·.2)) env μ) (KE (ct nm X) env σ G ρ H Q) (KX (ct nm X) W env σ G ρ H)) :
    tLc (wpI X tg iter) (aG X scope tg) tt (aE X scope elt) (own.map (·.2)) σ H Q := by
  refine hi.run env μ σ H ρ G _ R ((Po.bind P).imp (fun x hx J H1 ρ1 G1 e1 R1 so => ?_) fun _ _ _ h => h)
  obtain ⟨s, μ1⟩ := x
  have R1 : Rel (ct nm X) G1 ρ1 env μ1 σ H1 := R1
  intro D hD
  have gD1 : G1 D = none := Same.free R1.sub hD
  have nD1 : D ∉ ρ1 := fun z => R1.ρH z hD
  let K : List Lr.D × Mu → Prop := fun r => KE (ct nm X) env σ G1 ρ1 H1 Q (mkL fl r.1 r.2)
  have hx2 : Po (lcGo T tst me s (wp0 (own.map (·.2)) env) fuel 0 [] μ1) K (fun _ _ _ => True) :=
    Po.imp (Po.bind hx) (fun r h => KE.re e1 h) fun _ _ _ _ => trivial
  let Wf : Nat → Nat → Hp → Prop := fun i f H' => ∃ acc vs μ' ρ' G', H' D = some (.lst vs) ∧ reps (ct nm X) G' ρ' acc vs ∧ Ext G1 ρ1 H1 G' ρ' H' ∧ Rel (ct nm X) G' ρ' env μ' σ H' ∧ G' D = none ∧ D ∉ ρ' ∧
    Po (lcGo T tst me s (wp0 (own.map (·.2)) env) f i acc μ') K (fun _ _ _ => True)
  refine ⟨Wf, ⟨fuel, [], [], μ1, ρ1, G1, upd_same, rfl, Ext.other .refl hD (fun ps z => by rw [hD] at z; cases z), R1.other gD1 nD1 (fun ps z => by rw [hD] at z; cases z), gD1, nD1, hx2⟩, ?_⟩
  rintro i f H' ⟨acc, vs, μ', ρ', G', hD', ra, e3, R3, gD, nD, P3⟩
  cases f with
  | zero => exact P3.elim
  | succ f =>
    unfold lcGo at P3
    cases hq : items s μ' with
    | none => rw [hq] at P3; exact P3.elim
    | some ds =>
      obtain ⟨so1, so2⟩ := so i G' ρ' env μ' σ H' ds e3 R3 hq
      rw [hq] at P3
      dsimp only at P3
      cases hd : ds[i]? with
      | none =>
        rw [hd] at P3
        exact .inl ⟨so2 hd, KE.newL R3 e3 hD gD nD hD' ra P3⟩
      | some d =>
        rw [hd] at P3
        dsimp only at P3
        obtain ⟨go, yl⟩ := so1 d hd
        refine .inr ⟨go, fun H' => Wf (i + 1) f H', fun H' h => ⟨f, Nat.lt_succ_self f, h⟩, fun x H4 y => ?_⟩
        obtain ⟨G4, e4, R4, r4⟩ := yl x H4 y
        cases ht : setT T d (wp0 (own.map (·.2)) env) with
        | none => rw [ht] at P3; exact P3.elim
        | some env3 =>
          rw [ht] at P3
          dsimp only at P3
          intro sh H0 C cl fp
          refine (hg sh H0 C cl fp).run (wp0 (own.map (·.2)) env) μ' (wipe σ (own.map (·.2))) H4 ρ' G4 d x env3 _ (wipe_rel R4 _) r4 ht fun σ3 R5 w5 => ?_
          have wq : wipe σ3 (own.map (·.2)) = wipe σ (own.map (·.2)) := (w5 _ hT).trans (wipe_wipe σ _)
          refine ⟨wq, htt env3 μ' σ3 H4 ρ' G4 _ R5 ?_⟩
          -- back in the def's slots
          have slots : ∀ {G ρ μ H}, Rel (ct nm X) G ρ env3 μ σ3 H → Ext G4 ρ' H4 G ρ H → Rel (ct nm X) G ρ env μ σ H := fun {G ρ μ H} Z x => ⟨Z.sub, Z.nd, Z.gn, Z.len, Z.cells, R4.slen, fun i d e => by
            obtain ⟨v, h1, h2⟩ := R4.slots i d e
            exact ⟨v, h1, x.rep h2⟩, Z.tab⟩
          -- the list made stays known to none
          have keep : ∀ {G5 ρ5 H5}, Ext G' ρ' H' G5 ρ5 H5 → H5 D = some (.lst vs) ∧ G5 D = none ∧ D ∉ ρ5 := fun {G5 ρ5 H5} x => by
            refine ⟨x.frame D _ hD' nD (fun ps z => by cases z), ?_, fun z => ?_⟩
            · cases q : G5 D with
              | none => rfl
              | some o =>
                rcases x.gf D o q with z | z | ⟨_, z, _, rfl⟩
                · rw [gD] at z; cases z
                · rw [hD'] at z; cases z
                · rw [hD'] at z; cases z
            · rcases x.fresh D z with z | z
              · exact nD z
              · rw [hD'] at z; cases z
          cases hb : tst env3 μ' with
          | ok b =>
            obtain ⟨b, μ2⟩ := b
            rw [hb] at P3
            intro H5 ρ5 G5 e5 R6
            cases b with
            | false =>
              obtain ⟨k1, k2, k3⟩ := keep (e4.trans e5)
              exact iteF ⟨acc, vs, μ2, ρ5, G5, k1, (e4.trans e5).reps ra, (e3.trans e4).trans e5, slots R6 e5, k2, k3, P3⟩
            | true =>
              dsimp only at P3
              refine iteT fun sh H0 C cl fp => ?_
              refine (he sh H0 C cl fp).run env3 μ2 σ3 H5 ρ5 G5 _ R6 ?_
              cases hm : me env3 μ2 with
              | ok z =>
                obtain ⟨z, μ3⟩ := z
                rw [hm] at P3
                dsimp only at P3
                intro v H6 ρ6 G6 e6 R7 r7
                have e46 := (e4.trans e5).trans e6
                obtain ⟨k1, k2, k3⟩ := keep e46
                split at P3
                · rename_i hz
                  refine ⟨vs, k1, by rw [ra.length, lineN_eq]; exact hz, ?_⟩
                  exact ⟨acc ++ [z], vs ++ [v], μ3, ρ6, G6, upd_same, (e46.reps ra).app (reps.one r7), Ext.other (e3.trans e46) hD (fun ps z => by rw [k1] at z; cases z), (slots R7 (e5.trans e6)).other k2 k3 (fun ps z => by rw [k1] at z; cases z), k2, k3, P3⟩
                · exact P3.elim
              | ex => rw [hm] at P3; exact P3.elim
              | no => rw [hm] at P3; exact P3.elim
          | ex => rw [hb] at P3; exact P3.elim
          | no => rw [hb] at P3; exact P3.elim
theorem ev_lc (fl : Bool) (hc : X.calm = true) (hN : X.N.Nodup) (hi : IV nm X W tg iter mi) (own : List (Str × Nat)) (ok : blkC X.N X.env.scope scope own = true) (hT : T.slots.all (fun i => (own.map (·.2)).contains i) = true)
    (hg : ∀ (s : Shared) (H0 : Hp) (C : Addr) (cl : List (Str × Addr)) (fp : List Addr), GV nm (X.blk s H0 scope (compEnvC scope cl C X.env) fp) tg T)
    (he : ∀ (s : Shared) (H0 : Hp) (C : Addr) (cl : List (Str × Addr)) (fp : List Addr), EV nm (X.blk s H0 scope (compEnvC scope cl C X.env) fp) (fun _ _ _ _ => False) elt me)
    (hs : ∀ x, foldedSetIterable iter X.env x = pure x := by intro _; rfl) : EV nm X W (.ListComp elt [⟨tg, iter, [], 0⟩] scope pos) (cLc fl T mi tTrue me (own.map (·.2))) :=
  ev_of (pe_lc (tt := tYes) hc hN pi_wp (blkOk_by ok) (g := aG X scope tg) (te := aE X scope elt) (fun s H C cl fp => ⟨fun pins s' σ H' v u Q I r h => h s H C cl fp pins s' u I r⟩) (fun _ _ _ _ _ => pts_nil) (fun s H C cl fp => ⟨fun pins s' σ H' Q I h => h s H C cl fp pins s' I⟩) hs) fun env μ σ H ρ G Q R P =>
    lc_run (tst := tTrue) (fun i hi => by simpa using List.all_eq_true.mp hT i hi) (fun env μ σ H ρ G Q R P => P H ρ G .refl R) hg he hi R P
end
end Lr
namespace Lr
open PySem L2
noncomputable def putD (kvs : List (D × D)) (k v : D) : List (D × D) := if kvs.any (fun p => kEq p.1 k) then kvs.map (fun p => if kEq p.1 k then (p.1, v) else p) else kvs ++ [(k, v)]
noncomputable def dSet (o i v : D) (μ : Mu) : Option Mu := match o with
  | .ref n => match μ[n]? with
    | some (.lst ds) => match i with
      | .int k => match ixN ds.length k with
        | some j => some (μ.set n (.lst (ds.set j v)))
        | none => none
      | _ => none
    | some (.dic kvs) => if isK i ∧ kvs.length < lineN then some (μ.set n (.dic (putD kvs i v))) else none
    | some (.dit kvs) => if (keyT i).isSome ∧ kvs.length < lineN then some (μ.set n (.dit (putD kvs i v))) else none
    | _ => none
  | _ => none
noncomputable def sSub (mo mi ma : M) : SM := fun env μ => eThen ((ma env μ).bind fun x => (mo env x.2).bind fun y => (mi env y.2).bind fun z => .ok (x.1, y.1, z)) env fun r => (dSet r.2.1 r.2.2.1 r.1 r.2.2.2).map fun μ' => .nx env μ'
section
variable {t : Ct} {G H : Hp} {ρ : List Addr}
theorem repk_len : ∀ {kvs : List (D × D)} {ks : List (Key × V)}, repk t G ρ kvs ks → ks.length = kvs.length
  | [], _, h => by cases h; rfl
  | (a, d) :: r, _, ⟨x, v, r', e, hx, h1, h2⟩ => by subst e; rw [List.length_cons, List.length_cons, repk_len h2]
theorem repkT_len : ∀ {kvs : List (D × D)} {ks : List (List Key × V)}, repkT t G ρ kvs ks → ks.length = kvs.length
  | [], _, h => by cases h; rfl
  | (a, d) :: r, _, ⟨x, v, r', e, hx, h1, h2⟩ => by subst e; rw [List.length_cons, List.length_cons, repkT_len h2]
end
section
variable {nm : Nm} {X : Cx} {W : XW} {a b c e o i tg it : Expr} {es : List Expr} {pos p apos pos' : Pos} {ms : MA} {ma mo mi : M}
noncomputable def sAug (i : Nat) (f : F2) (ma : M) : SM := fun env μ => match env[i]? with
  | some (some d) => eThen ((ma env μ).bind fun y => f d y.1 y.2) env fun r => some (.nx (env.set i (some r.1)) r.2)
  | _ => none
end
end Lr
namespace Lr
open PySem L2
section
variable {nm : Nm} {X : Cx} {W : XW} {e o : Expr} {es : List Expr} {pos p apos : Pos} {ms : MA} {ma : M} {x : Str}
theorem ev_cb {id : String} {r : List V → Hp → VK → Prop} {f : FN} (hc : CallR X (.builtin id) r) (hf : OpN nm X W f r) (hm : X.mg x = none) (ha : AV nm X W (e :: es) ms) (hg : Gl X x := by rfl) (hv : bootBuiltins x = some (.builtin id) := by decide +kernel)
    (hn : x ≠ "__name__" := by decide) (hdb : (x == ("__debug__" : Str)) = false := by decide) (hs : starEach (e :: es) X.env = (false, eval e X.env) :: starEach es X.env := by rfl) (hpl : (backTo pos (starEach es X.env)).any (·.1) = false := by rfl) :
    EV nm X W (.Call (.Name x p) (e :: es) [] pos) (cF f ms) := ev_of (pe_callB hc hg hm hv pa_wp hn hdb hs hpl) fun env μ σ H ρ G Q R P => args_run ha hf R P
theorem ev_ct {T : String} {r : List V → Hp → VK → Prop} {f : FN} (hc : CallR X (.type T) r) (hf : OpN nm X W f r) (hm : X.mg x = none) (ha : AV nm X W (e :: es) ms) (hg : Gl X x := by rfl) (hv : bootBuiltins x = some (.type T) := by decide +kernel)
    (hn : x ≠ "__name__" := by decide) (hdb : (x == ("__debug__" : Str)) = false := by decide) (hs : starEach (e :: es) X.env = (false, eval e X.env) :: starEach es X.env := by rfl) (hpl : (backTo pos (starEach es X.env)).any (·.1) = false := by rfl) :
    EV nm X W (.Call (.Name x p) (e :: es) [] pos) (cF f ms) := ev_of (pe_callTy hc hg hm hv pa_wp hn hdb hs hpl) fun env μ σ H ρ G Q R P => args_run ha hf R P
noncomputable def dLen : FN := fun ds μ => match ds with
  | [d] => match d with
    | .str z => .ok (.int z.length, μ)
    | .tup xs => .ok (.int xs.length, μ)
    | .tpz xs => .ok (.int xs.length, μ)
    | d => match lof d μ with
      | some xs => .ok (.int xs.length, μ)
      | none => match dof d μ with
        | some (.dic kvs) => .ok (.int kvs.length, μ)
        | some (.dit kvs) => .ok (.int kvs.length, μ)
        | _ => .no
  | _ => .no
noncomputable def rLen (X : Cx) : List V → Hp → VK → Prop := fun xs H Q => ((∃ z, xs = [.str z] ∧ z.length ≤ sizeLine ∧ Q (.int z.length) H) ∨ (∃ p ys, xs = [.ref p] ∧ (SqL X.K H p ys ∨ SqT X.K H p ys) ∧ Q (.int ys.length) H)) ∨
  ((∃ a kvs, xs = [V.ref a] ∧ Rd H a (.dK kvs) ∧ Q (.int kvs.length) H) ∨ rLenT xs H Q)
theorem call_lenRd : CallR X (.builtin "len") (fun xs H Q => ∃ a kvs, xs = [V.ref a] ∧ Rd H a (.dK kvs) ∧ Q (.int kvs.length) H) := by
  intro pins s σ H xs us Q I r h
  obtain ⟨a, kvs, rfl, ha, q⟩ := h
  obtain ⟨u, rfl, ru⟩ := vals1 r
  cases ru
  exact d_len I ha fun t s' I' => ⟨.int kvs.length, H, I', ⟨t, rfl⟩, q⟩
theorem callr_len : CallR X (.builtin "len") (rLen X) := (call_len_str.or call_len_seq).or (call_lenRd.or call_len_dT)
noncomputable def tyR (K : PySem.W.Frag) (T : String) (x : V) (H : Hp) : Prop := tyV K T x H ∨ (T = "dict" ∧ ((∃ p ks, x = .ref p ∧ Rd H p (.dK ks)) ∨ ∃ w p xs, x = .ref p ∧ H p = some (DnO w p xs)))
theorem tyR_is {pins : List (Addr × Obj)} {σ : St} {H : Hp} {s : Shared} {T : String} {x : V} {v : Value} (I : Inv X pins σ H s) (r : RelV x v) (ty : tyR X.K T x H) : s.TypeIs v T ∧ ∀ a, v = .ref a → ∃ ob, s.heap.get? a = some ob ∧ ob.dict = none := by
  rcases ty with ty | ⟨rfl, ⟨p, ks, rfl, hr⟩ | ⟨w, p, xs, rfl, hr⟩⟩
  · exact tyV_is I r ty
  · cases r
    obtain ⟨_, _, _, _, o, _, _, e, ex, _⟩ := dk_rd I.hok hr
    exact ⟨⟨o, e, ex.1⟩, fun a e2 => by cases e2; exact ⟨o, e, ex.2.1⟩⟩
  · cases r
    obtain ⟨⟨_, o, _, _, _, _, _, e, ex, _⟩, _⟩ := (show ObjOk X.prog X.w H s.heap p (DnO w p xs) from I.hok p _ hr)
    exact ⟨⟨o, e, ex.1⟩, fun a e2 => by cases e2; exact ⟨o, e, ex.2.1⟩⟩
theorem dof_ok {env μ σ H ρ G} (R : Rel (ct nm X) G ρ env μ σ H) {d dd : D} {v : V} (r : rep (ct nm X) G ρ d v) (e : dof d μ = some dd) :
    ∃ a, v = .ref a ∧ ((∃ kvs ks, dd = .dic kvs ∧ Rd H a (.dK ks) ∧ repk (ct nm X) G ρ kvs ks) ∨ ∃ kvs ks, dd = .dit kvs ∧ H a = some (.dT ks) ∧ repkT (ct nm X) G ρ kvs ks) := by
  unfold dof at e
  split at e
  · cases e
    obtain ⟨a, ks, rfl, q, rk⟩ := r
    exact ⟨a, rfl, .inl ⟨_, _, rfl, Same.rd R.sub q, rk⟩⟩
  · cases e
    obtain ⟨a, ks, rfl, q, rk⟩ := r
    exact ⟨a, rfl, .inr ⟨_, _, rfl, R.sub _ _ q, rk⟩⟩
  · rename_i n
    obtain ⟨a, e3, rfl⟩ := r
    split at e
    · rename_i kvs q
      cases e
      obtain ⟨ks, q2, rk⟩ := R.cells n a _ e3 q
      exact ⟨a, rfl, .inl ⟨_, _, rfl, Rd.of q2, rk⟩⟩
    · rename_i kvs q
      cases e
      obtain ⟨ks, q2, rk⟩ := R.cells n a _ e3 q
      exact ⟨a, rfl, .inr ⟨_, _, rfl, q2, rk⟩⟩
    · cases e
  · cases e
theorem opn_len : OpN nm X W dLen (rLen X) := by
  intro env μ σ H ρ G Q ds vs R r P
  unfold dLen at P
  split at P
  · obtain ⟨v, r0, rfl, rv, hr⟩ := r
    cases hr
    split at P
    · obtain ⟨rfl, o⟩ := rv
      refine .inl (.inl ⟨_, rfl, by rw [S_len, lineN_eq]; exact okS_len o, ?_⟩)
      rw [S_len]
      exact P _ H ρ G .refl R rfl
    · obtain ⟨a, vs, rfl, q, rs⟩ := tup_H R rv
      refine .inl (.inr ⟨a, vs, rfl, .inr q, ?_⟩)
      rw [rs.length]
      exact P _ H ρ G .refl R rfl
    · obtain ⟨a, vs, rfl, q, rs⟩ := tpz_H R rv
      refine .inl (.inr ⟨a, vs, rfl, .inr q, ?_⟩)
      rw [rs.length]
      exact P _ H ρ G .refl R rfl
    · split at P
      · rename_i e0
        obtain ⟨a, vs, rfl, q, rs⟩ := lof_ok R rv e0
        refine .inl (.inr ⟨a, vs, rfl, .inl q, ?_⟩)
        rw [rs.length]
        exact P _ H ρ G .refl R rfl
      · split at P
        · rename_i e0
          obtain ⟨a, rfl, ⟨_, ks, e1, h, rk⟩ | ⟨_, ks, e1, h, rk⟩⟩ := dof_ok R rv e0
          · cases e1
            refine .inr (.inl ⟨a, ks, rfl, h, ?_⟩)
            rw [repk_len rk]
            exact P _ H ρ G .refl R rfl
          · cases e1
        · rename_i e0
          obtain ⟨a, rfl, ⟨_, ks, e1, h, rk⟩ | ⟨_, ks, e1, h, rk⟩⟩ := dof_ok R rv e0
          · cases e1
          · cases e1
            refine .inr (.inr ⟨a, ks, rfl, h, ?_⟩)
            rw [repkT_len rk]
            exact P _ H ρ G .refl R rfl
        · exact P.elim
  · exact P.elim
noncomputable def tyN (d : D) (μ : Mu) : Option String := match d with
  | .non => some "NoneType"
  | .bl _ => some "bool"
  | .int _ => some "int"
  | .str _ => some "str"
  | .tup _ => some "tuple"
  | .tpz _ => some "tuple"
  | d => if (lof d μ).isSome then some "list" else if (dof d μ).isSome then some "dict" else none
noncomputable def dIsi (T : String) : F1 := fun d μ => match tyN d μ with
  | some t => match kitB t T with
    | some b => .ok (.bl b, μ)
    | none => .no
  | none => .no
theorem tyN_ok {env μ σ H ρ G} (R : Rel (ct nm X) G ρ env μ σ H) {d : D} {v : V} {t : String} (r : rep (ct nm X) G ρ d v) (e : tyN d μ = some t) : TyX X.K H v (.type t) := by
  unfold tyN at e
  split at e
  · cases e; cases r; exact .base .non
  · cases e; cases r; exact .base (.bl _)
  · cases e; cases r; exact .base (.int _)
  · cases e; obtain ⟨rfl, _⟩ := r; exact .base (.str _)
  · cases e
    obtain ⟨a, vs, rfl, q, _⟩ := tup_T R r
    exact .base (.tup q)
  · cases e
    obtain ⟨a, vs, rfl, ⟨o, q, _⟩, _⟩ := r
    exact .fTuple (R.sub _ _ q)
  · split at e
    · rename_i h
      cases e
      obtain ⟨ds, h⟩ := Option.isSome_iff_exists.mp h
      obtain ⟨a, vs, rfl, q, _⟩ := lof_ok R r h
      rcases q with (q | ⟨o, q⟩) | ⟨o, _, _, q, c, _⟩
      · exact .base (.lst q)
      · exact .base (.frz q)
      · exact .kList q c
    · split at e
      · rename_i h
        cases e
        obtain ⟨dd, h⟩ := Option.isSome_iff_exists.mp h
        obtain ⟨a, rfl, ⟨_, ks, e1, h, rk⟩ | ⟨_, ks, e1, h, rk⟩⟩ := dof_ok R r h
        · rcases h with h | ⟨o, h⟩
          · exact .base (.dK h)
          · exact .fDict h
        · exact .base (.dT h)
      · cases e
theorem ev_isi {T : String} {y : Str} {p2 : Pos} (hm : X.mg "isinstance" = none) (hmT : X.mg y = none) (ha : EV nm X W e ma) (hg : Gl X "isinstance" := by rfl) (hgT : Gl X y := by rfl) (hT : bootBuiltins y = some (.type T) := by decide +kernel)
    (hnT : y ≠ "__name__" := by decide) (hdT : (y == ("__debug__" : Str)) = false := by decide)
    (hs : starEach [e, .Name y p2] X.env = (false, eval e X.env) :: starEach [.Name y p2] X.env := by rfl) (hs2 : starEach [.Name y p2] X.env = (false, eval (.Name y p2) X.env) :: starEach [] X.env := by rfl) (hpl : (backTo pos (starEach [.Name y p2] X.env)).any (·.1) = false := by rfl) :
    EV nm X W (.Call (.Name "isinstance" p) [e, .Name y p2] [] pos) (cU (dIsi T) ma) :=
  ev_of (pe_callB call_isi hg hm (by decide +kernel) (pa_cons pe_wp (pa_cons (pe_bltn (v := .ty T) hgT hmT hT rfl hnT hdT) pa_nil hs2) hs) (by decide) (by decide) hs hpl) fun env μ σ H ρ G Q R P => by
  refine ha.run env μ σ H ρ G _ R ((Po.bind P).imp (fun z hz v H1 ρ1 G1 e1 R1 r1 => ?_) fun _ _ _ h => h)
  unfold dIsi at hz
  split at hz
  · rename_i t et
    split at hz
    · rename_i b eb
      exact ⟨v, .ty T, .type t, .type T, b, rfl, .ty T, tyN_ok R1 r1 et, kit_ty eb, hz _ H1 ρ1 G1 e1 R1 rfl⟩
    · exact hz.elim
  · exact hz.elim
noncomputable def dTuple : FN := fun ds μ => match ds with
  | [d] => match d with
    | .tup xs => .ok (.tup xs, μ)
    | d => match lof d μ with
      | some xs => .ok (.tup xs, μ)
      | none => .no
  | _ => .no
noncomputable def dList (fl : Bool) : FN := fun ds μ => match ds with
  | [d] => match d with
    | .tup xs => .ok (mkL fl xs μ)
    | d => match lof d μ with
      | some xs => .ok (mkL fl xs μ)
      | none => .no
  | _ => .no
theorem opn_list {fl : Bool} : OpN nm X W (dList fl) (fun xs H Q => ∃ p ys, xs = [.ref p] ∧ (SqL X.K H p ys ∨ SqT X.K H p ys) ∧ ∀ l, H l = none → Q (.ref l) (upd H l (.lst ys))) := by
  intro env μ σ H ρ G Q ds vs R r P
  unfold dList at P
  split at P
  · obtain ⟨v, r0, rfl, rv, hr⟩ := r
    cases hr
    split at P
    · obtain ⟨a, vs, rfl, q, rs⟩ := tup_H R rv
      exact ⟨a, vs, rfl, .inr q, new_L R rs P⟩
    · split at P
      · rename_i e0
        obtain ⟨a, vs, rfl, q, rs⟩ := lof_ok R rv e0
        exact ⟨a, vs, rfl, .inl q, new_L R rs P⟩
      · exact P.elim
  · exact P.elim
noncomputable def bsOf : List D → Option (List Bool)
  | [] => some []
  | .bl b :: r => (bsOf r).map (b :: ·)
  | _ => none
theorem bsOf_ok {t : Ct} {G : Hp} {ρ : List Addr} : ∀ {ds : List D} {vs : List V} {bs : List Bool}, reps t G ρ ds vs → bsOf ds = some bs → vs = bs.map V.bl
  | [], _, bs, h, e => by cases h; cases e; rfl
  | d :: ds, _, bs, ⟨v, r, e1, h1, h2⟩, e => by
    subst e1
    cases d with
    | bl b =>
      simp only [bsOf, Option.map_eq_some_iff] at e
      obtain ⟨bs', e2, rfl⟩ := e
      rw [bsOf_ok h2 e2, show v = .bl b from h1]; rfl
    | _ => cases e
noncomputable def dBools (f : List Bool → Bool) : FN := fun ds μ => match ds with
  | [d] => match lof d μ with
    | some xs => match bsOf xs with
      | some bs => .ok (.bl (f bs), μ)
      | none => .no
    | none => .no
  | _ => .no
theorem opn_any : OpN nm X W (dBools fun bs => bs.any id) (rAny X.K) := by
  intro env μ σ H ρ G Q ds vs R r P
  unfold dBools at P
  split at P
  · obtain ⟨v, r0, rfl, rv, hr⟩ := r
    cases hr
    split at P
    · rename_i e0
      obtain ⟨a, vs, rfl, q, rs⟩ := lof_ok R rv e0
      split at P
      · rename_i bs e1
        have := bsOf_ok rs e1
        subst this
        exact ⟨a, bs, rfl, q, P _ H ρ G .refl R rfl⟩
      · exact P.elim
    · exact P.elim
  · exact P.elim
noncomputable def dInt : FN := fun ds μ => match ds with
  | [.int i] => .ok (.int i, μ)
  | [.bl k] => .ok (.int (if k then 1 else 0), μ)
  | _ => .no
theorem opn_int : OpN nm X W dInt (fun xs H Q => (∃ i, xs = [.int i] ∧ Q (.int i) H) ∨ ∃ k, xs = [.bl k] ∧ Q (.int (if k then 1 else 0)) H) := by
  intro env μ σ H ρ G Q ds vs R r P
  unfold dInt at P
  split at P
  · obtain ⟨v, r0, rfl, rv, hr⟩ := r
    cases hr; cases rv
    exact .inl ⟨_, rfl, P _ H ρ G .refl R rfl⟩
  · obtain ⟨v, r0, rfl, rv, hr⟩ := r
    cases hr; cases rv
    exact .inr ⟨_, rfl, P _ H ρ G .refl R rfl⟩
  · exact P.elim
noncomputable def dMax2 : FN := fun ds μ => match ds with
  | [.int i, .int j] => .ok (.int (max i j), μ)
  | _ => .no
noncomputable def dMin2 : FN := fun ds μ => match ds with
  | [.int i, .int j] => .ok (.int (min i j), μ)
  | _ => .no
noncomputable def isN (d : D) (μ : Mu) : Bool := match d with
  | .ref n => match μ[n]? with
    | some (.din _) => true
    | _ => false
  | _ => false
noncomputable def isT (T : String) (d : D) (μ : Mu) : Bool := match d with
  | .str _ => T == "str"
  | d => if (lof d μ).isSome then T == "list" else if (dof d μ).isSome then T == "dict" else isN d μ && T == "dict"
noncomputable abbrev FM := D → List D → Mu → Res (D × Mu)
noncomputable def cM (T : String) (f : FM) (a : M) (ms : MA) : M := fun env μ => (a env μ).bind fun x => if isT T x.1 x.2 then (ms env x.2).bind fun y => f x.1 y.1 y.2 else .no
noncomputable def OpM (nm : Nm) (X : Cx) (W : XW) (f : FM) (r : V → List V → Hp → VK → Prop) : Prop := ∀ env μ σ H ρ G Q d ds v vs, Rel (ct nm X) G ρ env μ σ H → rep (ct nm X) G ρ d v → reps (ct nm X) G ρ ds vs →
  Po (f d ds μ) (KE (ct nm X) env σ G ρ H Q) (KX (ct nm X) W env σ G ρ H) → r v vs H Q
theorem isN_ok {env μ σ H ρ G} (R : Rel (ct nm X) G ρ env μ σ H) {d : D} {v : V} (r : rep (ct nm X) G ρ d v) (h : isN d μ = true) : ∃ a xs, v = .ref a ∧ H a = some (DnO X.w a xs) := by
  cases d with
  | ref n =>
    obtain ⟨a, e3, rfl⟩ := r
    unfold isN at h
    dsimp only at h
    cases q : μ[n]? with
    | none => rw [q] at h; cases h
    | some c =>
      rw [q] at h
      cases c with
      | din kvs =>
        obtain ⟨xs, h1, _⟩ := R.cells n a _ e3 q
        exact ⟨a, xs, rfl, h1⟩
      | _ => cases h
  | _ => cases h
theorem isT_ok {env μ σ H ρ G} (R : Rel (ct nm X) G ρ env μ σ H) {T : String} {d : D} {v : V} (r : rep (ct nm X) G ρ d v) (h : isT T d μ = true) : tyR X.K T v H := by
  unfold isT at h
  split at h
  · obtain ⟨rfl, _⟩ := r
    exact .inl (beq_iff_eq.mp h)
  · split at h
    · rename_i h2
      obtain ⟨ds, h2⟩ := Option.isSome_iff_exists.mp h2
      obtain ⟨a, vs, rfl, q, _⟩ := lof_ok R r h2
      exact .inl (.inl ⟨beq_iff_eq.mp h, vs, q⟩)
    · split at h
      · rename_i h2
        obtain ⟨dd, h2⟩ := Option.isSome_iff_exists.mp h2
        obtain ⟨a, rfl, ⟨_, ks, e1, h3, rk⟩ | ⟨_, ks, e1, h3, rk⟩⟩ := dof_ok R r h2
        · exact .inr ⟨beq_iff_eq.mp h, .inl ⟨a, ks, rfl, h3⟩⟩
        · exact .inl (.inr (.inr (.inl ⟨beq_iff_eq.mp h, .inr ⟨ks, h3⟩⟩)))
      · rw [Bool.and_eq_true] at h
        obtain ⟨a, xs, rfl, h1⟩ := isN_ok R r h.1
        exact .inr ⟨beq_iff_eq.mp h.2, .inr ⟨_, a, xs, rfl, h1⟩⟩
variable {name : Str} {T id : String} {r : V → List V → Hp → VK → Prop} {fm : FM}
theorem pe_bmR {to : TE} {t : TA} (pa : PlainAttrs T) (slot : Slot T name id) (hty : typeOf (.builtin id) = pure (.type "method_descriptor")) (hm : MtR X id r) (ho : PE X o to) (ha : PA X (e :: es) t)
    (hbase : attributeBase o name X.env (eval o X.env) = eval o X.env) (hfew : ((backTo pos (starEach (e :: es) X.env)).all (fun x => !x.1) && (backToKw pos (keywordEach [] X.env)).all (fun x => x.1.isSome)
      && decide ((e :: es).length + ([] : List Keyword).length + (if ([] : List Keyword).isEmpty then 0 else 1) < 30)) = true)
    (hline : (apos.endLine == pos.line) = true) (hs : starEach (e :: es) X.env = (false, eval e X.env) :: starEach es X.env) (hplain : (backTo pos (starEach es X.env)).any (·.1) = false) :
    PE X (.Call (.Attribute o name apos) (e :: es) [] pos) (fun σ H Q => to σ H fun x H1 => tyR X.K T x H1 ∧ t σ H1 fun xs H2 => r x xs H2 Q) := by
  constructor
  intro pins s σ H Q I h
  apply wpAny_Call_method_late hbase hfew hline rfl
  apply thn (ho.run pins s σ H _ I h)
  rintro v s1 ⟨x, H1, I1, r1, ty, q1⟩
  refine ⟨T, id, pa, slot, hty, (tyR_is I1 r1 ty).1, (tyR_is I1 r1 ty).2, ?_⟩
  have hA := ha.run pos pins s1 σ H1 _ I1 q1
  rw [hs] at hA ⊢
  have hp : (backTo pos ((false, eval e X.env) :: starEach es X.env)).any (·.1) = false := by
    show (false || (backTo pos (starEach es X.env)).any (·.1)) = false
    rw [hplain]; rfl
  refine Calls.callWith_builtin hp (Calls.evalArgs_plain ?_)
  apply thn hA
  rintro us s2 ⟨vs, H2, I2, r2, q2⟩
  exact hm pins s2 σ H2 x vs v us Q I2 r1 r2 q2
theorem pe_bmR0 {to : TE} (pa : PlainAttrs T) (slot : Slot T name id) (hty : typeOf (.builtin id) = pure (.type "method_descriptor")) (hm : MtR X id r) (ho : PE X o to)
    (hbase : attributeBase o name X.env (eval o X.env) = eval o X.env) (hline : (apos.endLine == pos.line) = true) : PE X (.Call (.Attribute o name apos) [] [] pos) (fun σ H Q => to σ H fun x H1 => tyR X.K T x H1 ∧ r x [] H1 Q) := by
  constructor
  intro pins s σ H Q I h
  apply wpAny_Call_method0_late hbase hline
  apply thn (ho.run pins s σ H _ I h)
  rintro v s1 ⟨x, H1, I1, r1, ty, q1⟩
  exact ⟨T, id, pa, slot, hty, (tyR_is I1 r1 ty).1, (tyR_is I1 r1 ty).2, Calls.callWith_builtin rfl (PySem.evalArgs_none (hm pins s1 σ H1 x [] v [] Q I1 r1 .nil q1))⟩
theorem ev_bm (pa : PlainAttrs T) (slot : Slot T name id) (hty : typeOf (.builtin id) = pure (.type "method_descriptor")) (hm : MtR X id r) (hf : OpM nm X W fm r) (ho : EV nm X W o ma) (ha : AV nm X W (e :: es) ms)
    (hbase : attributeBase o name X.env (eval o X.env) = eval o X.env := by rfl)
    (hfew : ((backTo pos (starEach (e :: es) X.env)).all (fun x => !x.1) && (backToKw pos (keywordEach [] X.env)).all (fun x => x.1.isSome)
      && decide ((e :: es).length + ([] : List Keyword).length + (if ([] : List Keyword).isEmpty then 0 else 1) < 30)) = true := by rfl)
    (hline : (apos.endLine == pos.line) = true := by rfl) (hs : starEach (e :: es) X.env = (false, eval e X.env) :: starEach es X.env := by rfl) (hplain : (backTo pos (starEach es X.env)).any (·.1) = false := by rfl) :
    EV nm X W (.Call (.Attribute o name apos) (e :: es) [] pos) (cM T fm ma ms) := ev_of (pe_bmR pa slot hty hm pe_wp pa_wp hbase hfew hline hs hplain) fun env μ σ H ρ G Q R P => by
  refine ho.run env μ σ H ρ G _ R ((Po.bind P).imp (fun x hx v H1 ρ1 G1 e1 R1 r1 => ?_) fun _ _ _ h => h)
  split at hx
  · rename_i ht
    refine ⟨isT_ok R1 r1 ht, ?_⟩
    refine ha.run env x.2 σ H1 ρ1 G1 _ R1 ((Po.bind (Po.reE e1 hx)).imp (fun y hy vs H2 ρ2 G2 e2 R2 r2 => ?_) fun _ _ _ h => h)
    exact hf env y.2 σ H2 ρ2 G2 Q x.1 y.1 v vs R2 (e2.rep r1) r2 (Po.reE e2 hy)
  · exact hx.elim
theorem ev_bm0 (pa : PlainAttrs T) (slot : Slot T name id) (hty : typeOf (.builtin id) = pure (.type "method_descriptor")) (hm : MtR X id r) (hf : OpM nm X W fm r) (ho : EV nm X W o ma)
    (hbase : attributeBase o name X.env (eval o X.env) = eval o X.env := by rfl) (hline : (apos.endLine == pos.line) = true := by rfl) : EV nm X W (.Call (.Attribute o name apos) [] [] pos) (cM T fm ma cNil) := ev_of (pe_bmR0 pa slot hty hm pe_wp hbase hline) fun env μ σ H ρ G Q R P => by
  refine ho.run env μ σ H ρ G _ R ((Po.bind P).imp (fun x hx v H1 ρ1 G1 e1 R1 r1 => ?_) fun _ _ _ h => h)
  split at hx
  · rename_i ht
    exact ⟨isT_ok R1 r1 ht, hf env x.2 σ H1 ρ1 G1 Q x.1 [] v [] R1 r1 rfl (Po.reE e1 hx)⟩
  · exact hx.elim
noncomputable def lst1 (d : D) (μ : Mu) (f : Nat → List D → Res (D × Mu)) : Res (D × Mu) := match d with
  | .ref n => match μ[n]? with
    | some (.lst xs) => f n xs
    | _ => .no
  | _ => .no
noncomputable def mAppend : FM := fun d ds μ => lst1 d μ fun n xs => match ds with
  | [y] => if xs.length < lineN then .ok (.non, μ.set n (.lst (xs ++ [y]))) else .no
  | _ => .no
theorem opm_append : OpM nm X W mAppend rAppend := by
  intro env μ σ H ρ G Q d ds v vs R rv r P
  unfold mAppend lst1 at P
  split at P
  · split at P
    · rename_i n _ xs q
      obtain ⟨a, ws, rfl, ea, h, rs⟩ := cell_lst R rv q
      split at P
      · obtain ⟨w, r0, rfl, rw', hr⟩ := r
        cases hr
        dsimp only at P
        split at P
        · rename_i hz
          obtain ⟨R2, e2⟩ := R.setCell (o := .lst (ws ++ [w])) (d := .lst (xs ++ [_])) ea ⟨_, upd_same, rs.app (reps.one rw')⟩
          exact ⟨a, ws, w, rfl, rfl, h, by rw [rs.length, lineN_eq]; exact hz, P .non _ ρ G e2 R2 rfl⟩
        · exact P.elim
      · exact P.elim
    · exact P.elim
  · exact P.elim
noncomputable def joinL (sep : List Nat) : List (List Nat) → List Nat
  | [] => []
  | [x] => x
  | x :: r => x ++ sep ++ joinL sep r
noncomputable def strsOf : List D → Option (List (List Nat))
  | [] => some []
  | .str z :: r => (strsOf r).map (z :: ·)
  | _ => none
theorem strsOf_ok {t : Ct} {G : Hp} {ρ : List Addr} : ∀ {ds : List D} {vs : List V} {xs : List (List Nat)}, reps t G ρ ds vs → strsOf ds = some xs → vs = (xs.map S).map V.str ∧ ∀ x ∈ xs, okS x = true
  | [], _, bs, h, e => by cases h; cases e; exact ⟨rfl, fun _ h => by simp at h⟩
  | d :: ds, _, bs, ⟨v, r, e1, h1, h2⟩, e => by
    subst e1
    cases d with
    | str b =>
      simp only [strsOf, Option.map_eq_some_iff] at e
      obtain ⟨bs', e2, rfl⟩ := e
      obtain ⟨rfl, o⟩ := h1
      obtain ⟨e3, e4⟩ := strsOf_ok h2 e2
      rw [e3]
      refine ⟨rfl, fun x hx => ?_⟩
      rcases List.mem_cons.mp hx with h | h
      · rw [h]; exact o
      · exact e4 x h
    | _ => cases e
theorem join_S (sep : List Nat) : ∀ xs : List (List Nat), Txt.join (S sep) (xs.map S) = S (joinL sep xs) := by
  intro xs
  show PySem.Builtin.Str.glued (S sep) (xs.map S) = _
  rw [PySem.StrLaws.glued_eq_join]
  induction xs with
  | nil => rfl
  | cons x r ih =>
    cases r with
    | nil => rfl
    | cons y r =>
      show S x ++ S sep ++ Str.join (S sep) ((y :: r).map S) = _
      rw [ih, S_app, S_app]; rfl
theorem joinL_len (sep : List Nat) : ∀ xs : List (List Nat), (joinL sep xs).length ≤ (xs.map List.length).sum + xs.length * sep.length := by
  intro xs
  induction xs with
  | nil => simp [joinL]
  | cons x r ih =>
    cases r with
    | nil => simp [joinL]
    | cons y r =>
      simp only [joinL, List.length_append, List.map_cons, List.sum_cons, List.length_cons] at ih ⊢
      rw [Nat.add_mul, Nat.one_mul]
      omega
theorem joinL_mem (sep : List Nat) : ∀ {xs : List (List Nat)} {c : Nat}, c ∈ joinL sep xs → c ∈ sep ∨ ∃ x ∈ xs, c ∈ x := by
  intro xs
  induction xs with
  | nil => intro c h; simp [joinL] at h
  | cons x r ih =>
    intro c h
    cases r with
    | nil => exact .inr ⟨x, by simp, h⟩
    | cons y r =>
      simp only [joinL, List.mem_append] at h
      rcases h with (h | h) | h
      · exact .inr ⟨x, by simp, h⟩
      · exact .inl h
      · rcases ih h with h | ⟨z, h1, h2⟩
        · exact .inl h
        · exact .inr ⟨z, List.mem_cons_of_mem _ h1, h2⟩
noncomputable def seqD (d : D) (μ : Mu) : Option (List D) := match d with
  | .tup ds => some ds
  | d => lof d μ
noncomputable def mJoin : FM := fun d ds μ => match d, ds with
  | .str sep, [y] => match seqD y μ with
    | some ys => match strsOf ys with
      | some xs => if (xs.map List.length).sum + xs.length * sep.length ≤ lineN then .ok (.str (joinL sep xs), μ) else .no
      | none => .no
    | none => .no
  | _, _ => .no
theorem opm_join : OpM nm X W mJoin (fun x xs H Q => ∃ a p, ∃ ys : List Str, x = .str a ∧ xs = [.ref p] ∧ (SqL X.K H p (ys.map V.str) ∨ SqT X.K H p (ys.map V.str)) ∧ (ys.map (·.length)).sum + ys.length * a.length ≤ 16777216 ∧ Q (.str (Txt.join a ys)) H) := by
  intro env μ σ H ρ G Q d ds v vs R rv r P
  unfold mJoin at P
  split at P
  · obtain ⟨rfl, o⟩ := rv
    rename_i sep y
    obtain ⟨w, r0, rfl, rw', hr⟩ := r
    cases hr
    split at P
    · rename_i ys e1
      split at P
      · rename_i xs e2
        split at P
        · rename_i hz
          have hl : (List.map (·.length) (xs.map S)).sum = (xs.map List.length).sum := by
            rw [List.map_map]
            refine congrArg List.sum (List.map_congr_left fun x _ => ?_)
            show (S x).length = _
            rw [S_len]
          have go : (∀ x ∈ xs, okS x = true) → Q (.str (Txt.join (S sep) (xs.map S))) H := fun ok => by
            rw [join_S]
            refine P _ H ρ G .refl R ⟨rfl, okS_mk (Nat.le_trans (joinL_len sep xs) hz) fun c hc => ?_⟩
            rcases joinL_mem sep hc with h | ⟨x, h1, h2⟩
            · exact okS_mem o h
            · exact okS_mem (ok x h1) h2
          have hsum : (List.map (·.length) (xs.map S)).sum + (xs.map S).length * (S sep).length ≤ 16777216 := by
            rw [hl, List.length_map, S_len]; exact hz
          unfold seqD at e1
          split at e1
          · cases e1
            obtain ⟨a, vs, rfl, q, rs⟩ := tup_H R rw'
            obtain ⟨e3, e4⟩ := strsOf_ok rs e2
            subst e3
            exact ⟨S sep, a, xs.map S, rfl, rfl, .inr q, hsum, go e4⟩
          · obtain ⟨a, vs, rfl, q, rs⟩ := lof_ok R rw' e1
            obtain ⟨e3, e4⟩ := strsOf_ok rs e2
            subst e3
            exact ⟨S sep, a, xs.map S, rfl, rfl, .inl q, hsum, go e4⟩
        · exact P.elim
      · exact P.elim
    · exact P.elim
  · exact P.elim
noncomputable def upC (c : Nat) : Nat := PyProof.Rows.up1 c
noncomputable def loC (c : Nat) : Nat := PyProof.Rows.lo1 c
noncomputable def mUpper : FM := fun d ds μ => match d, ds with
  | .str z, [] => if z.length ≤ 5592405 ∧ (z.all fun c => decide (c < 128)) = true then .ok (.str (z.map upC), μ) else .no
  | _, _ => .no
noncomputable def mLower : FM := fun d ds μ => match d, ds with
  | .str z, [] => if z.length ≤ 5592405 ∧ (z.all fun c => decide (c < 128)) = true then .ok (.str (z.map loC), μ) else .no
  | _, _ => .no
theorem S_SX (z : List Nat) : S z = SX.S z := rfl
theorem opm_upper : OpM nm X W mUpper (fun x xs H Q => ∃ a, x = .str a ∧ xs = [] ∧ a.length ≤ 5592405 ∧ Q (.str (Txt.upper a)) H) := by
  intro env μ σ H ρ G Q d ds v vs R rv r P
  unfold mUpper at P
  split at P
  · obtain ⟨rfl, o⟩ := rv
    cases r
    split at P
    · rename_i z hz
      refine ⟨S z, rfl, rfl, by rw [S_len]; exact hz.1, ?_⟩
      rw [S_SX, SX.upper_S hz.2]
      refine P _ H ρ G .refl R ⟨rfl, okS_mk (by rw [List.length_map]; exact okS_len o) fun c hc => ?_⟩
      obtain ⟨c', h1, rfl⟩ := List.mem_map.mp hc
      have := of_decide_eq_true (List.all_eq_true.mp hz.2 c' h1)
      unfold upC PyProof.Rows.up1
      split <;> omega
    · exact P.elim
  · exact P.elim
theorem opm_lower : OpM nm X W mLower (fun x xs H Q => ∃ a, x = .str a ∧ xs = [] ∧ a.length ≤ 5592405 ∧ Q (.str (Txt.lower a)) H) := by
  intro env μ σ H ρ G Q d ds v vs R rv r P
  unfold mLower at P
  split at P
  · obtain ⟨rfl, o⟩ := rv
    cases r
    split at P
    · rename_i z hz
      refine ⟨S z, rfl, rfl, by rw [S_len]; exact hz.1, ?_⟩
      rw [S_SX, SX.lower_S hz.2]
      refine P _ H ρ G .refl R ⟨rfl, okS_mk (by rw [List.length_map]; exact okS_len o) fun c hc => ?_⟩
      obtain ⟨c', h1, rfl⟩ := List.mem_map.mp hc
      have := of_decide_eq_true (List.all_eq_true.mp hz.2 c' h1)
      unfold loC PyProof.Rows.lo1
      split <;> omega
    · exact P.elim
  · exact P.elim
end
end Lr
namespace Lr
open PySem L2
open PyProof.Rows (envOfC)
theorem room_u {k : Nat} {A : Around} (r : Room k A) : A.units + 65 < cLine := by have := r.un; omega
theorem room_u4 {k : Nat} {A : Around} (r : Room k A) : A.units + 64 < cLine := r.units
noncomputable def sNo : SM := fun _ _ => none
noncomputable def DefSrc (K : PySem.W.Frag) (mg : Str → Option Value) (x : Str) (st : Stmt) : Prop := ∃ f fd, Fun K x x st f fd ∧ mg x = some (.ref f)
noncomputable def DefOk (P : Program) (w : World) (K : PySem.W.Frag) (mg : Str → Option Value) (base : Heap) (nm : Nm) (x : Str) (k n : Nat) (F : GF) : Prop :=
  ∃ f fd ps, FnOk P w K mg base CX0 k f fd ps (spG0 ⟨K, mg, nm, w⟩ n F) ∧ mg x = some (.ref f) ∧ PySem.W.keepIn K (.ref f) = true ∧ Binds K fd ps []
section
variable {P : Program} {w : World} {K : PySem.W.Frag} {mg : Str → Option Value} {base h : Heap} {nm : Nm} {x m qual : Str} {st : Stmt} {N ps : List Str} {k : Nat} {sm : SM} {C f : Addr}
theorem defSrc_mk (X : K.In h) (G : h.Ns mainGlobals mg) (a : PySem.W.nsIn K mainGlobals x = some (some (.ref f))) {oc : Value} {od an : Option Addr} {osl : Array (Option Value)} {kV doc pm cdv ct : Value}
    (l : K.lookup f = some ⟨oc, od, .func (PySem.W.fnOf x x (defArgs st) (defBody st) (defScope st) .none kV doc pm an cdv ct), osl⟩)
    (c : PySem.W.codeIn K cdv x = true) (k : PySem.W.keepIn K (.ref f) = true) : DefSrc K mg x st := ⟨f, _, fun_mk l c k, PySem.W.mg_of X G a⟩
noncomputable abbrev Bi (st : Stmt) (x qual : Str) (ps : List Str) : Prop := ∀ (kV doc pm : Value) (an : Option Addr) (cdv ct : Value) (us : List Value), us.length = ps.length → bindArgs (PySem.W.fnOf x qual (defArgs st) (defBody st) (defScope st) .none kV doc pm an cdv ct) ⟨us, []⟩ = pure (ps.zip us)
noncomputable abbrev Bd (P : Program) (w : World) (K : PySem.W.Frag) (mg : Str → Option Value) (base : Heap) (nm : Nm) (N : List Str) (qual : Str) (st : Stmt) (k : Nat) (sm : SM) : Prop :=
  ∀ (f : Addr) (cdv : Value) (A : Around) (outer : List Env) (s : Shared) (H : Hp) (E : XK), Room k (A.deeper (envOfC qual (defScope st) s.heap.objs.size f cdv)) →
      BV nm (cxOf CX0 P w K mg base N qual (defScope st) f cdv A outer s H E).nox (fun _ _ _ _ => False) (defBody st) sm
theorem def_ok (S : DefSrc K mg x st) (sc : FnScope N ps (defScope st)) (hl : ps.length ≤ N.length) (bi : Bi st x x ps) (hb : Bd P w K mg base nm N x st k sm) : DefOk P w K mg base nm x (k + 1) ps.length (bodyF N.length sm) := by
  obtain ⟨f, fd, F, hm⟩ := S
  exact ⟨f, fd, ps, fn_gen0 F sc hl (hb f), hm, F.kp, F.binds bi⟩
end
section
variable {nm : Nm} {X : Cx} {W : XW} {e o : Expr} {es : List Expr} {pos p apos : Pos} {ms : MA} {ma : M} {k j n c : Nat} {C : Addr} {F : GF} {x m : Str}
theorem ev_callF (D : DefOk X.prog X.w X.K X.mg X.base nm x k n F) (hr : Room j X.A) (ha : AV nm X W (e :: es) ms) (hj : k ≤ j := by decide) (hn : es.length + 1 = n := by rfl)
    (hg : Gl X x := by rfl) (hdb : (x == ("__debug__" : Str)) = false := by decide) (he : starEach (e :: es) X.env = (false, eval e X.env) :: starEach es X.env := by rfl) (hpl : (backTo pos (starEach es X.env)).any (·.1) = false := by rfl) :
    EV nm X W (.Call (.Name x p) (e :: es) [] pos) (cF (pureC F) ms) := by
  obtain ⟨f, fd, ps, Fk, hm, hk, hb⟩ := D
  exact ev_call Fk callOk_pure (hr.mono hj) hm hk hb ha hn hg hdb he hpl
end
noncomputable def LawTrue (F : GF) : Prop := ∀ ns : List Int, ns.length ≤ 63 → ∃ μ, F [.scr (ns.map .int)] [] = .ok (.bl true, μ)
theorem reps_of_ints {t : Ct} {G : Hp} {ρ : List Addr} : ∀ ns : List Int, reps t G ρ (ns.map D.int) (ns.map V.int)
  | [] => rfl
  | n :: ns => ⟨.int n, _, rfl, rfl, reps_of_ints ns⟩
theorem law_sp {w : World} {K : PySem.W.Frag} {mg : Str → Option Value} {nm : Nm} {F : GF} (h : LawTrue F) {H : Hp} {a : Addr} {ns : List Int} (hl : ns.length ≤ 63) (hS : SqL K H a (ns.map V.int)) (hT : ∀ p ∈ nm.tb, TabH H H p.1 p.2) : spG0 ⟨K, mg, nm, w⟩ 1 F [.ref a] H (fun v _ => v = .bl true) fun _ _ _ => False := by
  obtain ⟨μ, e⟩ := h ns hl
  refine ⟨H, [], [], [.scr (ns.map .int)], rfl, Rel.empty (.refl _) hT, ⟨.ref a, [], rfl, ⟨a, _, rfl, hS, reps_of_ints ns⟩, rfl⟩, ?_⟩
  rw [e]
  exact fun v H' ρ' G' x R r => r
theorem law_walk {l : PySem.W.OpenLaw} {k : Nat} {nm : Nm} {F : GF} {q : Program} {loose : List Str} {XP : (Str → Option Value) → Heap → Prop} {YP : World → Heap → Prop} {d : DefRec} {K : Params → PySem.W.Frag} {x : Str} (hn : l.most = some 63) (hdf : d.params.defaults = []) (hk : Room k callerA)
    (hY : ∀ (w : World) (h : Heap), YP w h → (K w.params).In h) (hd : d.name = x) (hL : LawTrue F) (htb : nm.tb = []) 
    (hF : ∀ (w : World) (mg : Str → Option Value) (h : Heap), (K w.params).In h → h.Ns mainGlobals mg →
      ∃ (fa : Addr) (fd : FuncData) (y : Str), mg x = some (.ref fa) ∧ (∀ (s : Shared) (u : Value), BindsTo s fd ⟨[u], []⟩ [(y, u)]) ∧ y = "_law_script" ∧
        ∀ base : Heap, (K w.params).In base → base.Ns mainGlobals mg → FnOk l.prog w (K w.params) mg base CX0 k fa fd [y] (spG0 ⟨K w.params, mg, nm, w⟩ 1 F)) :
    PySem.W.WalkO q loose XP YP l.row.toRowW d [] (fun f vs => PySem.call f vs) := by
  subst hd
  refine L2.walk_of (n := 63) (k := k) (x := "_law_script") (CX := fun _ => CX0) (sp := fun w vs H Q E => ∀ mg, spG0 ⟨K w.params, mg, nm, w⟩ 1 F vs H Q E) hn (by decide) hdf hk hY (fun w mg fa h KX G hmg => ?_) (fun w H a ns hl _ hS mg => law_sp hL hl hS (by rw [htb]; exact fun p hp => nomatch hp)) fun _ _ _ _ _ z => z
  obtain ⟨fa', fd, y, e1, b, rfl, hF⟩ := hF w mg h KX G
  rw [hmg] at e1; cases e1
  exact ⟨fd, b, fun base h1 h2 => (hF base h1 h2).imp fun vs H Q E h => h mg⟩
end Lr
namespace Lr
open PySem L2
open PyProof.Rows (envOfC)
theorem law_end {P : Program} {w : World} {K : PySem.W.Frag} {mg : Str → Option Value} {nm : Nm} {st : Stmt} {N : List Str} {k : Nat} {sm : SM} {x y : Str} (S : DefSrc K mg x st) (sc : FnScope N [y] (defScope st)) (hl : 1 ≤ N.length) (bi : Bi st x x [y])
    (hb : ∀ base : Heap, K.In base → base.Ns mainGlobals mg → Bd P w K mg base nm N x st k sm) (hy : y = "_law_script" := by rfl) : ∃ (fa : Addr) (fd : FuncData) (y : Str), mg x = some (.ref fa) ∧ (∀ (s : Shared) (u : Value), BindsTo s fd ⟨[u], []⟩ [(y, u)]) ∧ y = "_law_script" ∧
      ∀ base : Heap, K.In base → base.Ns mainGlobals mg → FnOk P w K mg base CX0 (k + 1) fa fd [y] (spG0 ⟨K, mg, nm, w⟩ 1 (bodyF N.length sm)) := by
  obtain ⟨f, fd, F, hm⟩ := S
  have F' := F
  obtain ⟨⟨oc, od, kV, doc, pm, an, cdv, ct, osl, rfl, lk, hcd⟩, kp⟩ := F'
  exact ⟨f, _, y, hm, fun s u => .of_eq (bi kV doc pm an cdv ct [u] rfl), hy, fun base h1 h2 => fn_gen0 F sc hl (hb base h1 h2 f)⟩
section
variable {nm : Nm} {X : Cx} {W : XW} {x : Str} {pos : Pos}
theorem ev_globS {z : Str} {t : Tok} (y : List Nat) (hm : X.mg x = some (.str z t)) (hg : Gl X x := by rfl) (h : z.cps.toList = y := by decide +kernel) (ho : okS y = true := by decide +kernel) (hd : (x == ("__debug__" : Str)) = false := by decide) : EV nm X W (.Name x pos) (cK (.str y)) :=
  ev_glob (v := .str z) hg hm ⟨_, rfl⟩ (fun _ _ => ⟨by rw [← h, S_of], ho⟩) hd
end
end Lr
namespace Lr
open PySem L2
noncomputable def lowL : List Nat := (List.range 26).map (· + 97)
noncomputable def upL : List Nat := (List.range 26).map (· + 65)
noncomputable def bothL : List Nat := lowL ++ upL
theorem lowL_len : lowL.length = 26 := rfl
theorem upL_len : upL.length = 26 := rfl
theorem bothL_len : bothL.length = 52 := rfl
theorem lowL_mem {c : Nat} : c ∈ lowL ↔ 97 ≤ c ∧ c ≤ 122 := by
  unfold lowL
  rw [List.mem_map]
  simp only [List.mem_range]
  exact ⟨fun ⟨a, h, e⟩ => by omega, fun h => ⟨c - 97, by omega, by omega⟩⟩
section
variable (r : Res (D × Mu)) (rt : Res (Bool × Mu)) (ra : Res (List D × Mu)) (ro : Res (Option Int × Mu)) (ri : Res (Src × Mu)) (f g : F2) (u : F1) (fn : FN) (fm : FM) (a b c : M) (ta tb : MT) (ms : MA) (lo hi : MO) (s t : SM) (e : Ev) (i : Nat) (x y : D) (T : Tg) (fl : Bool) (tst : MT) (own : List Nat) (n : Int) (ty : String)
noncomputable def kB : Res (D × Mu) := r.bind fun x => (b e x.2).bind fun y => f x.1 y.1 y.2
noncomputable def kB2 : Res (D × Mu) := r.bind fun y => f x y.1 y.2
noncomputable def kU : Res (D × Mu) := r.bind fun x => u x.1 x.2
noncomputable def kC1 : Res (List D × Mu) := r.bind fun x => (ms e x.2).bind fun y => .ok (x.1 :: y.1, y.2)
noncomputable def kC2 : Res (List D × Mu) := ra.bind fun y => .ok (x :: y.1, y.2)
noncomputable def kF : Res (D × Mu) := ra.bind fun x => fn x.1 x.2
noncomputable def kTup : Res (D × Mu) := ra.bind fun x => if x.1.length ≤ lineN then .ok (.tup x.1, x.2) else .no
noncomputable def kLst : Res (D × Mu) := ra.bind fun x => if x.1.length ≤ lineN then .ok (mkL fl x.1 x.2) else .no
noncomputable def kTV : Res (Bool × Mu) := r.bind boolOf
noncomputable def kTN : Res (Bool × Mu) := rt.bind fun x => .ok (!x.1, x.2)
noncomputable def kTA : Res (Bool × Mu) := rt.bind fun x => if x.1 then tb e x.2 else .ok (false, x.2)
noncomputable def kTO : Res (Bool × Mu) := rt.bind fun x => if x.1 then .ok (true, x.2) else tb e x.2
noncomputable def kAnd : Res (D × Mu) := r.bind fun x => match x.1 with
  | .bl true => b e x.2
  | .bl false => .ok (.bl false, x.2)
  | _ => .no
noncomputable def kOr : Res (D × Mu) := r.bind fun x => match x.1 with
  | .bl true => .ok (.bl true, x.2)
  | .bl false => b e x.2
  | _ => .no
noncomputable def kIfE : Res (D × Mu) := rt.bind fun x => if x.1 then a e x.2 else b e x.2
noncomputable def kH4 : Res (D × Mu) := r.bind fun w => g y w.1 w.2
noncomputable def kH3 : Res (D × Mu) := r.bind fun z => match z.1 with
  | .bl true => (c e z.2).bind fun w => g y w.1 w.2
  | .bl false => .ok (.bl false, z.2)
  | _ => .no
noncomputable def kH2 : Res (D × Mu) := r.bind fun y => (f x y.1 y.2).bind fun z => match z.1 with
  | .bl true => (c e z.2).bind fun w => g y.1 w.1 w.2
  | .bl false => .ok (.bl false, z.2)
  | _ => .no
noncomputable def kH1 : Res (D × Mu) := r.bind fun x => (b e x.2).bind fun y => (f x.1 y.1 y.2).bind fun z => match z.1 with
  | .bl true => (c e z.2).bind fun w => g y.1 w.1 w.2
  | .bl false => .ok (.bl false, z.2)
  | _ => .no
noncomputable def kO : Res (Option Int × Mu) := r.bind fun x => match x.1 with
  | .int i => .ok (some i, x.2)
  | _ => .no
noncomputable def kS3 (l : Option Int) : Res (D × Mu) := ro.bind fun h => dSl fl x l h.1 h.2
noncomputable def kS2 : Res (D × Mu) := ro.bind fun l => (hi e l.2).bind fun h => dSl fl x l.1 h.1 h.2
noncomputable def kS1 : Res (D × Mu) := r.bind fun x => (lo e x.2).bind fun l => (hi e l.2).bind fun h => dSl fl x.1 l.1 h.1 h.2
noncomputable def kK3 (l : Option Int) : Res (D × Mu) := ro.bind fun h => dSlK n x l h.1 h.2
noncomputable def kK2 : Res (D × Mu) := ro.bind fun l => (hi e l.2).bind fun h => dSlK n x l.1 h.1 h.2
noncomputable def kK1 : Res (D × Mu) := r.bind fun x => (lo e x.2).bind fun l => (hi e l.2).bind fun h => dSlK n x.1 l.1 h.1 h.2
noncomputable def kM2 : Res (D × Mu) := ra.bind fun y => fm x y.1 y.2
noncomputable def kM1 : Res (D × Mu) := r.bind fun x => if isT ty x.1 x.2 then (ms e x.2).bind fun y => fm x.1 y.1 y.2 else .no
noncomputable def kMt2 : Res (D × Mu) := ra.bind fun y => fn (x :: y.1) y.2
noncomputable def kMt1 : Res (D × Mu) := r.bind fun x => match oof x.1 x.2 with
  | some (c', _) => if c' = i then (ms e x.2).bind fun y => fn (x.1 :: y.1) y.2 else .no
  | none => .no
noncomputable def kSeq (o : Option Ot) : Option Ot := match o with
  | some (.nx e' μ') => t e' μ'
  | r => r
noncomputable def kExpr : Option Ot := eThen r e fun x => some (.nx e x.2)
noncomputable def kRet : Option Ot := eThen r e fun x => some (.rt x.1 x.2)
noncomputable def kSif : Option Ot := eThen rt e fun x => if x.1 then s e x.2 else t e x.2
noncomputable def kSet : Option Ot := eThen r e fun x => some (.nx (e.set i (some x.1)) x.2)
noncomputable def kAsg : Option Ot := eThen r e fun x => (setT T x.1 e).map fun e' => .nx e' x.2
noncomputable def kFor : Option Ot := eThen ri e fun x => forGo T s x.1 fuel 0 e x.2
noncomputable def kSub3 : Option Ot := eThen r e fun z => (dSet y z.1 x z.2).map fun μ' => .nx e μ'
noncomputable def kSub2 : Option Ot := eThen r e fun y => eThen (b e y.2) e fun z => (dSet y.1 z.1 x z.2).map fun μ' => .nx e μ'
noncomputable def kSub1 : Option Ot := eThen r e fun x => eThen (a e x.2) e fun y => eThen (b e y.2) e fun z => (dSet y.1 z.1 x.1 z.2).map fun μ' => .nx e μ'
noncomputable def kIV : Res (Src × Mu) := r.bind fun x => match x.1 with
  | .str s => .ok (.fix (s.map fun c => .str [c]), x.2)
  | .tup ds => .ok (.fix ds, x.2)
  | .lst ds => .ok (.fix ds, x.2)
  | .scr ds => .ok (.fix ds, x.2)
  | .ref n => match x.2[n]? with
    | some (.lst _) => .ok (.live (.ref n), x.2)
    | _ => .no
  | _ => .no
noncomputable def kR1 : Res (Src × Mu) := ra.bind fun x => match x.1 with
  | [.int j] => if okR j then .ok (.fix (rangeD 0 j.toNat), x.2) else .no
  | _ => .no
noncomputable def kR2 : Res (Src × Mu) := ra.bind fun x => match x.1 with
  | [.int i, .int j] => if okR i ∧ okR j then .ok (.fix (rangeD i (j - i).toNat), x.2) else .no
  | _ => .no
noncomputable def kLc2 : Res (D × Mu) := ra.bind fun r => .ok (mkL fl r.1 r.2)
noncomputable def kLc1 : Res (D × Mu) := ri.bind fun x => (lcGo T tst a x.1 (wp0 own e) fuel 0 [] x.2).bind fun r => .ok (mkL fl r.1 r.2)
noncomputable def kFl2 (j : Nat) : Option Ot := eThen r e fun y => match y.1 with
  | .ref n => match y.2[n]? with
    | some (.obj c' ds) => if c' = i then (setF j x ds).map fun ds' => .nx e (y.2.set n (.obj i ds')) else none
    | _ => none
  | _ => none
noncomputable def kFl1 (j : Nat) : Option Ot := eThen r e fun x => eThen (a e x.2) e fun y => match y.1 with
  | .ref n => match y.2[n]? with
    | some (.obj c' ds) => if c' = i then (setF j x.1 ds).map fun ds' => .nx e (y.2.set n (.obj i ds')) else none
    | _ => none
  | _ => none
noncomputable def kAug : Option Ot := eThen r e fun y => eThen (f x y.1 y.2) e fun r => some (.nx (e.set i (some r.1)) r.2)
end
section
variable {r : Res (D × Mu)} {rt : Res (Bool × Mu)} {ra : Res (List D × Mu)} {ro : Res (Option Int × Mu)} {ri : Res (Src × Mu)} {f g : F2} {u : F1} {fn : FN} {fm : FM} {a b c : M} {ta tb : MT} {ms : MA} {lo hi : MO} {s t : SM} {e : Ev} {i : Nat} {d x y : D} {T : Tg} {fl : Bool} {tst : MT} {own : List Nat} {n : Int} {ty : String} {μ : Mu} {k : Bool} {xs : List D} {it : MI} {l h : Option Int} {ρ : Src}
theorem eThen_ok {α : Type} {a : α} {e : Ev} {k : α → Option Ot} : eThen (.ok a) e k = k a := rfl
theorem e_K : cK d e μ = .ok (d, μ) := id rfl
theorem e_V : cV i e μ = (match e[i]? with
  | some (some d) => .ok (d, μ)
  | _ => .no) := rfl
theorem e_B : cB f a b e μ = kB (a e μ) f b e := id rfl
theorem e_B1 : kB (.ok (x, μ)) f b e = kB2 (b e μ) f x := id rfl
theorem e_B2 : kB2 (.ok (y, μ)) f x = f x y μ := id rfl
theorem e_U : cU u a e μ = kU (a e μ) u := id rfl
theorem e_U1 : kU (.ok (x, μ)) u = u x μ := id rfl
theorem e_nil : cNil e μ = .ok ([], μ) := id rfl
theorem e_cons : cCons a ms e μ = kC1 (a e μ) ms e := id rfl
theorem e_cons1 : kC1 (.ok (x, μ)) ms e = kC2 (ms e μ) x := id rfl
theorem e_cons2 : kC2 (.ok (xs, μ)) x = .ok (x :: xs, μ) := id rfl
theorem e_F : cF fn ms e μ = kF (ms e μ) fn := id rfl
theorem e_F1 : kF (.ok (xs, μ)) fn = fn xs μ := id rfl
theorem e_tup : cTup ms e μ = kTup (ms e μ) := id rfl
theorem e_tup1 (h : xs.length ≤ lineN) : kTup (.ok (xs, μ)) = .ok (.tup xs, μ) := if_pos h
theorem e_lst : cLst fl ms e μ = kLst (ms e μ) fl := id rfl
theorem e_lst1 (h : xs.length ≤ lineN) : kLst (.ok (xs, μ)) fl = .ok (mkL fl xs μ) := if_pos h
theorem e_tVal : tVal a e μ = kTV (a e μ) := id rfl
theorem e_tVal1 : kTV (.ok (.bl k, μ)) = .ok (k, μ) := id rfl
theorem e_tNot : tNotD ta e μ = kTN (ta e μ) := id rfl
theorem e_tNot1 : kTN (.ok (k, μ)) = .ok (!k, μ) := id rfl
theorem e_tAnd : tAndD ta tb e μ = kTA (ta e μ) tb e := id rfl
theorem e_tAndT : kTA (.ok (true, μ)) tb e = tb e μ := id rfl
theorem e_tAndF : kTA (.ok (false, μ)) tb e = .ok (false, μ) := id rfl
theorem e_tOr : tOrD ta tb e μ = kTO (ta e μ) tb e := id rfl
theorem e_tOrT : kTO (.ok (true, μ)) tb e = .ok (true, μ) := id rfl
theorem e_tOrF : kTO (.ok (false, μ)) tb e = tb e μ := id rfl
theorem e_and : cAndD a b e μ = kAnd (a e μ) b e := id rfl
theorem e_andT : kAnd (.ok (.bl true, μ)) b e = b e μ := id rfl
theorem e_andF : kAnd (.ok (.bl false, μ)) b e = .ok (.bl false, μ) := id rfl
theorem e_or : cOrD a b e μ = kOr (a e μ) b e := id rfl
theorem e_orT : kOr (.ok (.bl true, μ)) b e = .ok (.bl true, μ) := id rfl
theorem e_orF : kOr (.ok (.bl false, μ)) b e = b e μ := id rfl
theorem e_not : dNot (.bl k) μ = .ok (.bl (!k), μ) := id rfl
theorem e_if : cIf ta a b e μ = kIfE (ta e μ) a b e := id rfl
theorem e_ifT : kIfE (.ok (true, μ)) a b e = a e μ := id rfl
theorem e_ifF : kIfE (.ok (false, μ)) a b e = b e μ := id rfl
theorem e_ch : cCh f g a b c e μ = kH1 (a e μ) f g b c e := id rfl
theorem e_ch1 : kH1 (.ok (x, μ)) f g b c e = kH2 (b e μ) f g c e x := id rfl
theorem e_ch2 : kH2 (.ok (y, μ)) f g c e x = kH3 (f x y μ) g c e y := id rfl
theorem e_chT : kH3 (.ok (.bl true, μ)) g c e y = kH4 (c e μ) g y := id rfl
theorem e_chF : kH3 (.ok (.bl false, μ)) g c e y = .ok (.bl false, μ) := id rfl
theorem e_ch4 : kH4 (.ok (x, μ)) g y = g y x μ := id rfl
theorem e_oNone : oNone e μ = .ok (none, μ) := id rfl
theorem e_oSome : oSome a e μ = kO (a e μ) := id rfl
theorem e_oSome1 : kO (.ok (.int n, μ)) = .ok (some n, μ) := id rfl
theorem e_sl : cSl fl a lo hi e μ = kS1 (a e μ) lo hi e fl := id rfl
theorem e_sl1 : kS1 (.ok (x, μ)) lo hi e fl = kS2 (lo e μ) hi e x fl := id rfl
theorem e_sl2 : kS2 (.ok (l, μ)) hi e x fl = kS3 (hi e μ) x fl l := id rfl
theorem e_sl3 : kS3 (.ok (h, μ)) x fl l = dSl fl x l h μ := id rfl
theorem e_slK : cSlK n a lo hi e μ = kK1 (a e μ) lo hi e n := id rfl
theorem e_slK1 : kK1 (.ok (x, μ)) lo hi e n = kK2 (lo e μ) hi e x n := id rfl
theorem e_slK2 : kK2 (.ok (l, μ)) hi e x n = kK3 (hi e μ) x n l := id rfl
theorem e_slK3 : kK3 (.ok (h, μ)) x n l = dSlK n x l h μ := id rfl
theorem e_M : cM ty fm a ms e μ = kM1 (a e μ) fm ms e ty := id rfl
theorem e_M1 (h : isT ty x μ = true) : kM1 (.ok (x, μ)) fm ms e ty = kM2 (ms e μ) fm x := if_pos h
theorem e_M2 : kM2 (.ok (xs, μ)) fm x = fm x xs μ := id rfl
theorem e_Mt : cMt i fn a ms e μ = kMt1 (a e μ) fn ms e i := id rfl
theorem e_Mt1 {ds : List D} : kMt1 (.ok (.obj i ds, μ)) fn ms e i = kMt2 (ms e μ) fn (.obj i ds) := if_pos rfl
theorem e_Mt1r {ds : List D} {j : Nat} (h : μ[j]? = some (.obj i ds)) : kMt1 (.ok (.ref j, μ)) fn ms e i = kMt2 (ms e μ) fn (.ref j) := by
  show (match oof (.ref j) μ with
  | some (c', _) => if c' = i then (ms e μ).bind fun y => fn ((.ref j) :: y.1) y.2 else .no
  | none => .no) = _
  have : oof (.ref j) μ = some (i, ds) := by unfold oof; simp only [h]
  rw [this]
  exact if_pos rfl
theorem e_Mt2 : kMt2 (.ok (xs, μ)) fn x = fn (x :: xs) μ := id rfl
theorem e_next : sNext e μ = some (.nx e μ) := id rfl
theorem e_seq : sSeq s t e μ = kSeq t (s e μ) := id rfl
theorem e_seq_nx : kSeq t (some (.nx e μ)) = t e μ := id rfl
theorem e_seq_rt : kSeq t (some (.rt d μ)) = some (.rt d μ) := id rfl
theorem e_seq_bk : kSeq t (some (.bk e μ)) = some (.bk e μ) := id rfl
theorem e_seq_ct : kSeq t (some (.ct e μ)) = some (.ct e μ) := id rfl
theorem e_expr : sExpr a e μ = kExpr (a e μ) e := id rfl
theorem e_expr1 : kExpr (.ok (x, μ)) e = some (.nx e μ) := id rfl
theorem e_ret : sRet a e μ = kRet (a e μ) e := id rfl
theorem e_ret1 : kRet (.ok (x, μ)) e = some (.rt x μ) := id rfl
theorem e_retN : sRetN e μ = some (.rt .non μ) := id rfl
theorem e_brk : sBrk e μ = some (.bk e μ) := id rfl
theorem e_cnt : sCnt e μ = some (.ct e μ) := id rfl
theorem e_sno : sNo e μ = none := id rfl
theorem e_sif : sIf ta s t e μ = kSif (ta e μ) s t e := id rfl
theorem e_sifT : kSif (.ok (true, μ)) s t e = s e μ := id rfl
theorem e_sifF : kSif (.ok (false, μ)) s t e = t e μ := id rfl
theorem e_set : sSet i a e μ = kSet (a e μ) e i := id rfl
theorem e_set1 : kSet (.ok (x, μ)) e i = some (.nx (e.set i (some x)) μ) := id rfl
theorem e_asg : sAsg T a e μ = kAsg (a e μ) e T := id rfl
theorem e_for : sFor T it s e μ = kFor (it e μ) s e T := id rfl
theorem e_for1 : kFor (.ok (ρ, μ)) s e T = forGo T s ρ fuel 0 e μ := by unfold kFor; rw [eThen_ok]
theorem e_while : sWhile ta s e μ = whGo ta s fuel e μ := id rfl
theorem e_sub : sSub a b c e μ = kSub1 (c e μ) a b e := by
  unfold sSub kSub1
  cases c e μ with
  | ok x =>
    show eThen ((a e x.2).bind _) _ _ = eThen (a e x.2) _ _
    cases a e x.2 with
    | ok y => show eThen ((b e y.2).bind _) _ _ = eThen (b e y.2) _ _; cases b e y.2 <;> rfl
    | ex => rfl
    | no => rfl
  | ex => rfl
  | no => rfl
theorem e_sub1 : kSub1 (.ok (x, μ)) a b e = kSub2 (a e μ) b e x := id rfl
theorem e_sub2 : kSub2 (.ok (y, μ)) b e x = kSub3 (b e μ) e x y := id rfl
theorem e_tTrue : tTrue e μ = .ok (true, μ) := id rfl
theorem e_lc : cLc fl T it tst a own e μ = kLc1 (it e μ) a e T fl tst own := id rfl
theorem bind_ok {α β : Type} {a : α} {f : α → Res β} : (Res.ok a).bind f = f a := rfl
theorem e_lc1 : kLc1 (.ok (ρ, μ)) a e T fl tst own = kLc2 (lcGo T tst a ρ (wp0 own e) fuel 0 [] μ) fl := by unfold kLc1 kLc2; rw [bind_ok]
theorem e_lc2 : kLc2 (.ok (xs, μ)) fl = .ok (mkL fl xs μ) := id rfl
theorem e_iVal : iVal a e μ = kIV (a e μ) := id rfl
theorem e_iValS {z : List Nat} : kIV (.ok (.str z, μ)) = .ok (.fix (z.map fun c => .str [c]), μ) := id rfl
theorem e_iValT : kIV (.ok (.tup xs, μ)) = .ok (.fix xs, μ) := id rfl
theorem e_iValL : kIV (.ok (.lst xs, μ)) = .ok (.fix xs, μ) := id rfl
theorem e_iValC : kIV (.ok (.scr xs, μ)) = .ok (.fix xs, μ) := id rfl
theorem e_range1 : iRange1 ms e μ = kR1 (ms e μ) := id rfl
theorem e_range1' (h0 : -4611686018427387904 ≤ n) (h1 : n < 4611686018427387904) : kR1 (.ok ([.int n], μ)) = .ok (.fix (rangeD 0 n.toNat), μ) := if_pos ⟨h0, h1⟩
theorem e_range2 : iRange2 ms e μ = kR2 (ms e μ) := id rfl
theorem e_range2' {m : Int} (h0 : -4611686018427387904 ≤ n) (h1 : n < 4611686018427387904) (h2 : -4611686018427387904 ≤ m) (h3 : m < 4611686018427387904) : kR2 (.ok ([.int n, .int m], μ)) = .ok (.fix (rangeD n (m - n).toNat), μ) := if_pos ⟨⟨h0, h1⟩, ⟨h2, h3⟩⟩
theorem mkL_f {ds : List D} : mkL false ds μ = (.lst ds, μ) := id rfl
theorem mkL_t {ds : List D} : mkL true ds μ = (.ref μ.length, μ ++ [.lst ds]) := id rfl
theorem setT_nm {d : D} : setT (.nm i) d e = some (e.set i (some d)) := id rfl
theorem e_fl {j : Nat} : sFl i j a b e μ = kFl1 (b e μ) a e i j := by
  unfold sFl kFl1
  cases b e μ with
  | ok x => show eThen ((a e x.2).bind _) _ _ = eThen (a e x.2) _ _; cases a e x.2 <;> rfl
  | ex => rfl
  | no => rfl
theorem e_fl1 {j : Nat} : kFl1 (.ok (x, μ)) a e i j = kFl2 (a e μ) e i x j := id rfl
theorem e_aug : sAug i f a e μ = (match e[i]? with
  | some (some d) => kAug (a e μ) f e i d
  | _ => none) := by
  unfold sAug kAug
  cases e[i]? with
  | none => rfl
  | some o => cases o with
    | none => rfl
    | some d => dsimp only; cases a e μ <;> rfl
theorem e_aug1 : kAug (.ok (y, μ)) f e i x = kSet (f x y μ) e i := by unfold kAug kSet; rw [eThen_ok]
end
section
variable {μ : Mu} {i j : Int} {x y : List Nat} {ds : List D} {fl : Bool}
theorem log2_lt {j : Int} {k : Nat} (h0 : 0 < j) (h1 : j < 2 ^ k) : j.natAbs.log2 < k := by
  have hj : j.natAbs ≠ 0 := by omega
  have h : j.natAbs < 2 ^ k := by
    have : (j.natAbs : Int) = j := by omega
    have h2 : (j.natAbs : Int) < ((2 ^ k : Nat) : Int) := by rw [this]; push_cast; exact h1
    exact_mod_cast h2
  exact (Nat.log2_lt hj).mpr h
theorem okDiv_of (h0 : 0 < j) (h1 : j < 1000000000000000000000000000000000000000000000000000000000000000000000000000) : okDiv j :=
  ⟨h0, Nat.lt_trans (log2_lt (k := 250) h0 (Int.lt_trans h1 (by decide))) (by decide)⟩
theorem d_div (h0 : 0 < j) (h1 : j < 1000000000000000000000000000000000000000000000000000000000000000000000000000) : dDiv (.int i) (.int j) μ = .ok (.int (i / j), μ) := if_pos (okDiv_of h0 h1)
theorem d_mod (h0 : 0 < j) : dMod (.int i) (.int j) μ = .ok (.int (i % j), μ) := if_pos h0
theorem d_sub : dSub (.int i) (.int j) μ = .ok (.int (i - j), μ) := id rfl
theorem d_add : dAdd fl (.int i) (.int j) μ = .ok (.int (i + j), μ) := id rfl
theorem d_addS (h : x.length + y.length ≤ lineN) : dAdd fl (.str x) (.str y) μ = .ok (.str (x ++ y), μ) := if_pos h
theorem d_addL {xs ys : List D} (h : xs.length + ys.length ≤ lineN) : dAdd fl (.lst xs) (.lst ys) μ = .ok (mkL fl (xs ++ ys) μ) := if_pos h
theorem d_addT {xs ys : List D} (h : xs.length + ys.length ≤ lineN) : dAdd fl (.tup xs) (.tup ys) μ = .ok (.tup (xs ++ ys), μ) := if_pos h
theorem d_neg : dNeg (.int i) μ = .ok (.int (-i), μ) := id rfl
theorem d_mul1 (h0 : -(2 ^ 64) < i) (h1 : i < 2 ^ 64) : dMul fl (.int i) (.int j) μ = .ok (.int (i * j), μ) := if_pos (.inl ⟨h0, h1⟩)
theorem d_mul2 (h0 : -(2 ^ 64) < j) (h1 : j < 2 ^ 64) : dMul fl (.int i) (.int j) μ = .ok (.int (i * j), μ) := if_pos (.inr (.inl ⟨h0, h1⟩))
theorem atI_pos {α : Type} {xs : List α} (h0 : 0 ≤ i) (h1 : i < xs.length) : atI xs i = xs[i.toNat]? := by
  unfold atI ixN
  rw [if_pos h0, if_pos h1]; rfl
theorem d_ixS (h0 : 0 ≤ i) (h1 : i < x.length) : dIx (.str x) (.int i) μ = .ok (.str [x.getD i.toNat 0], μ) := by
  unfold dIx
  have : i.toNat < x.length := by omega
  simp [atI_pos h0 h1, this]
theorem d_ixT (h0 : 0 ≤ i) (h1 : i < ds.length) : dIx (.tup ds) (.int i) μ = .ok (ds.getD i.toNat .non, μ) := by
  unfold dIx
  have : i.toNat < ds.length := by omega
  simp [atI_pos h0 h1, this]
theorem d_ixL (h0 : 0 ≤ i) (h1 : i < ds.length) : dIx (.lst ds) (.int i) μ = .ok (ds.getD i.toNat .non, μ) := by
  unfold dIx
  have : i.toNat < ds.length := by omega
  simp [lof, atI_pos h0 h1, this]
theorem d_ixC (h0 : 0 ≤ i) (h1 : i < ds.length) : dIx (.scr ds) (.int i) μ = .ok (ds.getD i.toNat .non, μ) := by
  unfold dIx
  have : i.toNat < ds.length := by omega
  simp [lof, atI_pos h0 h1, this]
theorem d_slS {lo hi : Option Int} : dSl fl (.str x) lo hi μ = .ok (.str (cutL x lo hi), μ) := id rfl
theorem d_slT {lo hi : Option Int} : dSl fl (.tup ds) lo hi μ = .ok (.tup (cutL ds lo hi), μ) := id rfl
theorem d_slL {lo hi : Option Int} : dSl fl (.lst ds) lo hi μ = .ok (mkL fl (cutL ds lo hi) μ) := id rfl
theorem d_slC {lo hi : Option Int} : dSl fl (.scr ds) lo hi μ = .ok (mkL fl (cutL ds lo hi) μ) := id rfl
theorem d_slKS {k : Int} {lo hi : Option Int} : dSlK k (.str x) lo hi μ = .ok (.str (cutK x lo hi k), μ) := id rfl
theorem cutL_map {α β : Type} {g : α → β} {xs : List α} {lo hi : Option Int} : cutL (xs.map g) lo hi = (cutL xs lo hi).map g := by unfold cutL; rw [List.length_map, List.map_take, List.map_drop]
theorem d_ltI : dLt (.int i) (.int j) μ = .ok (.bl (decide (i < j)), μ) := id rfl
theorem d_leI : dLe (.int i) (.int j) μ = .ok (.bl (decide (i ≤ j)), μ) := id rfl
theorem d_gtI : dGt (.int i) (.int j) μ = .ok (.bl (decide (j < i)), μ) := id rfl
theorem d_geI : dGe (.int i) (.int j) μ = .ok (.bl (decide (j ≤ i)), μ) := id rfl
theorem d_lenS : dLen [.str x] μ = .ok (.int x.length, μ) := id rfl
theorem d_lenT : dLen [.tup ds] μ = .ok (.int ds.length, μ) := id rfl
theorem d_lenL : dLen [.lst ds] μ = .ok (.int ds.length, μ) := id rfl
theorem d_lenC : dLen [.scr ds] μ = .ok (.int ds.length, μ) := id rfl
theorem d_inS {c : Nat} : dIn (.str [c]) (.str x) μ = .ok (.bl (decide (c ∈ x)), μ) := id rfl
theorem d_notInS {c : Nat} : dNotIn (.str [c]) (.str x) μ = .ok (.bl (!decide (c ∈ x)), μ) := id rfl
theorem pds_nil {k : Nat} : pds k [] = true := by cases k <;> rfl
theorem pds_cons {k : Nat} {d : D} : pds k (d :: ds) = (pd k d && pds k ds) := by cases k <;> rfl
theorem pd_int {k : Nat} : pd k (.int i) = true := by cases k <;> rfl
theorem pd_str {k : Nat} : pd k (.str x) = true := by cases k <;> rfl
theorem pd_bl {k : Nat} {b : Bool} : pd k (.bl b) = true := by cases k <;> rfl
theorem pd_non {k : Nat} : pd k .non = true := by cases k <;> rfl
theorem pds_map {α : Type} {k : Nat} {f : α → D} {xs : List α} (h : ∀ a ∈ xs, pd k (f a) = true) : pds k (xs.map f) = true := by
  induction xs with
  | nil => exact pds_nil
  | cons a r ih => rw [List.map_cons, pds_cons, h a (by simp), ih fun b hb => h b (by simp [hb])]; rfl
theorem vE_pd {d : D} (h : pd 20 d = true) : vE μ d = some d := if_pos h
theorem d_eq {a b : D} (h1 : pd 20 a = true) (h2 : pd 20 b = true) : dEq a b μ = .ok (.bl (beqD a b), μ) := by unfold dEq dEqB; rw [vE_pd h1, vE_pd h2]; rfl
theorem d_ne {a b : D} (h1 : pd 20 a = true) (h2 : pd 20 b = true) : dNe a b μ = .ok (.bl (!beqD a b), μ) := by unfold dNe dEqB; rw [vE_pd h1, vE_pd h2]; rfl
theorem d_eqI : dEq (.int i) (.int j) μ = .ok (.bl (decide (i = j)), μ) := by
  rw [d_eq rfl rfl]; unfold beqD; simp only [toP, PyData.eqv]; rw [Bool.beq_eq_decide_eq]
theorem d_neI : dNe (.int i) (.int j) μ = .ok (.bl (!decide (i = j)), μ) := by
  rw [d_ne rfl rfl]; unfold beqD; simp only [toP, PyData.eqv]; rw [Bool.beq_eq_decide_eq]
theorem d_eqS : dEq (.str x) (.str y) μ = .ok (.bl (decide (x = y)), μ) := by
  rw [d_eq rfl rfl]; unfold beqD; simp only [toP, PyData.eqv]; rw [beq_S]
theorem d_neS : dNe (.str x) (.str y) μ = .ok (.bl (!decide (x = y)), μ) := by
  rw [d_ne rfl rfl]; unfold beqD; simp only [toP, PyData.eqv]; rw [beq_S]
theorem d_eqB {a b : Bool} : dEq (.bl a) (.bl b) μ = .ok (.bl (decide (a = b)), μ) := by
  rw [d_eq rfl rfl]; unfold beqD; simp only [toP, PyData.eqv]; rw [Bool.beq_eq_decide_eq]
theorem d_neB {a b : Bool} : dNe (.bl a) (.bl b) μ = .ok (.bl (!decide (a = b)), μ) := by
  rw [d_ne rfl rfl]; unfold beqD; simp only [toP, PyData.eqv]; rw [Bool.beq_eq_decide_eq]
mutual
theorem beqD_refl' : ∀ d : D, ∀ k, pd k d = true → PyData.eqv (toP d) (toP d) = true
  | .non, _, _ => rfl
  | .bl b, _, _ => by cases b <;> rfl
  | .int i, _, _ => by simp [toP, PyData.eqv]
  | .str x, _, _ => by simp [toP, PyData.eqv]
  | .tup ds, 0, h => by simp [pd] at h
  | .tup ds, k + 1, h => by simpa [toP, PyData.eqv] using beqDs_refl' ds k h
  | .lst ds, 0, h => by simp [pd] at h
  | .lst ds, k + 1, h => by simpa [toP, PyData.eqv] using beqDs_refl' ds k h
  | .scr ds, 0, h => by simp [pd] at h
  | .scr ds, k + 1, h => by simpa [toP, PyData.eqv] using beqDs_refl' ds k h
  | .tpz ds, 0, h => by simp [pd] at h
  | .tpz ds, k + 1, h => by simpa [toP, PyData.eqv] using beqDs_refl' ds k h
  | .exc _ _, _, h => by simp [pd] at h
  | .dic _, _, h => by simp [pd] at h
  | .dit _, _, h => by simp [pd] at h
  | .din _, _, h => by simp [pd] at h
  | .obj _ _, _, h => by simp [pd] at h
  | .ref _, _, h => by simp [pd] at h
theorem beqDs_refl' : ∀ ds : List D, ∀ k, pds k ds = true → PyData.eqvAll (toPs ds) (toPs ds) = true
  | [], _, _ => rfl
  | d :: ds, k, h => by
    rw [pds_cons, Bool.and_eq_true] at h
    simp only [toPs, PyData.eqvAll, beqD_refl' d k h.1, beqDs_refl' ds k h.2]; rfl
end
end
theorem len_le {a : Nat} (h : a ≤ 16777216) : a ≤ lineN := h
theorem fuel_lt {a : Nat} (h : a < 16777300) : a < fuel := Nat.lt_of_lt_of_le h fuel_ge
theorem nrs_cons {d : D} {ds : List D} : nrs (d :: ds) = (nr d && nrs ds) := rfl
theorem nrs_map {α : Type} {f : α → D} {xs : List α} (h : ∀ a ∈ xs, nr (f a) = true) : nrs (xs.map f) = true := by
  induction xs with
  | nil => rfl
  | cons a r ih => rw [List.map_cons, nrs_cons, h a (by simp), ih fun b hb => h b (by simp [hb])]; rfl
theorem pds_strs {k : Nat} {ns : List (List Nat)} : pds k (ns.map D.str) = true := pds_map fun _ _ => pd_str
theorem pureC_ok {F : GF} {ds : List D} {μ μ' : Mu} {d : D} (h : F ds [] = .ok (d, μ')) (h1 : nrs ds = true) (h2 : vw μ' d = some d') : pureC F ds μ = .ok (d', μ) := by
  unfold pureC
  rw [if_pos h1, h]
  unfold retW
  simp only [h2]
theorem pureC_nr {F : GF} {ds : List D} {μ μ' : Mu} {d : D} (h : F ds [] = .ok (d, μ')) (h1 : nrs ds = true) (h2 : nr d = true) : pureC F ds μ = .ok (d, μ) := pureC_ok h h1 (if_pos h2)
theorem isi_str_non {μ : Mu} : dIsi "str" .non μ = .ok (.bl false, μ) := by first | rfl | (show (match kitB "NoneType" "str" with | some b => Res.ok (D.bl b, μ) | none => .no) = _; rw [show kitB "NoneType" "str" = some false by decide +kernel])
theorem isi_str_bl {μ : Mu} {b : Bool} : dIsi "str" (.bl b) μ = .ok (.bl false, μ) := by first | rfl | (show (match kitB "bool" "str" with | some b => Res.ok (D.bl b, μ) | none => .no) = _; rw [show kitB "bool" "str" = some false by decide +kernel])
theorem isi_str_int {μ : Mu} {i : Int} : dIsi "str" (.int i) μ = .ok (.bl false, μ) := by first | rfl | (show (match kitB "int" "str" with | some b => Res.ok (D.bl b, μ) | none => .no) = _; rw [show kitB "int" "str" = some false by decide +kernel])
theorem isi_str_str {μ : Mu} {x : List Nat} : dIsi "str" (.str x) μ = .ok (.bl true, μ) := by first | rfl | (show (match kitB "str" "str" with | some b => Res.ok (D.bl b, μ) | none => .no) = _; rw [show kitB "str" "str" = some true by decide +kernel])
theorem isi_str_tup {μ : Mu} {ds : List D} : dIsi "str" (.tup ds) μ = .ok (.bl false, μ) := by first | rfl | (show (match kitB "tuple" "str" with | some b => Res.ok (D.bl b, μ) | none => .no) = _; rw [show kitB "tuple" "str" = some false by decide +kernel])
theorem isi_str_lst {μ : Mu} {ds : List D} : dIsi "str" (.lst ds) μ = .ok (.bl false, μ) := by first | rfl | (show (match kitB "list" "str" with | some b => Res.ok (D.bl b, μ) | none => .no) = _; rw [show kitB "list" "str" = some false by decide +kernel])
theorem isi_int_non {μ : Mu} : dIsi "int" .non μ = .ok (.bl false, μ) := by first | rfl | (show (match kitB "NoneType" "int" with | some b => Res.ok (D.bl b, μ) | none => .no) = _; rw [show kitB "NoneType" "int" = some false by decide +kernel])
theorem isi_int_bl {μ : Mu} {b : Bool} : dIsi "int" (.bl b) μ = .ok (.bl true, μ) := by first | rfl | (show (match kitB "bool" "int" with | some b => Res.ok (D.bl b, μ) | none => .no) = _; rw [show kitB "bool" "int" = some true by decide +kernel])
theorem isi_int_int {μ : Mu} {i : Int} : dIsi "int" (.int i) μ = .ok (.bl true, μ) := by first | rfl | (show (match kitB "int" "int" with | some b => Res.ok (D.bl b, μ) | none => .no) = _; rw [show kitB "int" "int" = some true by decide +kernel])
theorem isi_int_str {μ : Mu} {x : List Nat} : dIsi "int" (.str x) μ = .ok (.bl false, μ) := by first | rfl | (show (match kitB "str" "int" with | some b => Res.ok (D.bl b, μ) | none => .no) = _; rw [show kitB "str" "int" = some false by decide +kernel])
theorem isi_int_tup {μ : Mu} {ds : List D} : dIsi "int" (.tup ds) μ = .ok (.bl false, μ) := by first | rfl | (show (match kitB "tuple" "int" with | some b => Res.ok (D.bl b, μ) | none => .no) = _; rw [show kitB "tuple" "int" = some false by decide +kernel])
theorem isi_int_lst {μ : Mu} {ds : List D} : dIsi "int" (.lst ds) μ = .ok (.bl false, μ) := by first | rfl | (show (match kitB "list" "int" with | some b => Res.ok (D.bl b, μ) | none => .no) = _; rw [show kitB "list" "int" = some false by decide +kernel])
theorem isi_bool_bl {μ : Mu} {b : Bool} : dIsi "bool" (.bl b) μ = .ok (.bl true, μ) := by first | rfl | (show (match kitB "bool" "bool" with | some b => Res.ok (D.bl b, μ) | none => .no) = _; rw [show kitB "bool" "bool" = some true by decide +kernel])
theorem isi_bool_int {μ : Mu} {i : Int} : dIsi "bool" (.int i) μ = .ok (.bl false, μ) := by first | rfl | (show (match kitB "int" "bool" with | some b => Res.ok (D.bl b, μ) | none => .no) = _; rw [show kitB "int" "bool" = some false by decide +kernel])
theorem isi_bool_str {μ : Mu} {x : List Nat} : dIsi "bool" (.str x) μ = .ok (.bl false, μ) := by first | rfl | (show (match kitB "str" "bool" with | some b => Res.ok (D.bl b, μ) | none => .no) = _; rw [show kitB "str" "bool" = some false by decide +kernel])
theorem isi_bool_tup {μ : Mu} {ds : List D} : dIsi "bool" (.tup ds) μ = .ok (.bl false, μ) := by first | rfl | (show (match kitB "tuple" "bool" with | some b => Res.ok (D.bl b, μ) | none => .no) = _; rw [show kitB "tuple" "bool" = some false by decide +kernel])
theorem isi_tuple_non {μ : Mu} : dIsi "tuple" .non μ = .ok (.bl false, μ) := by first | rfl | (show (match kitB "NoneType" "tuple" with | some b => Res.ok (D.bl b, μ) | none => .no) = _; rw [show kitB "NoneType" "tuple" = some false by decide +kernel])
theorem isi_tuple_bl {μ : Mu} {b : Bool} : dIsi "tuple" (.bl b) μ = .ok (.bl false, μ) := by first | rfl | (show (match kitB "bool" "tuple" with | some b => Res.ok (D.bl b, μ) | none => .no) = _; rw [show kitB "bool" "tuple" = some false by decide +kernel])
theorem isi_tuple_int {μ : Mu} {i : Int} : dIsi "tuple" (.int i) μ = .ok (.bl false, μ) := by first | rfl | (show (match kitB "int" "tuple" with | some b => Res.ok (D.bl b, μ) | none => .no) = _; rw [show kitB "int" "tuple" = some false by decide +kernel])
theorem isi_tuple_str {μ : Mu} {x : List Nat} : dIsi "tuple" (.str x) μ = .ok (.bl false, μ) := by first | rfl | (show (match kitB "str" "tuple" with | some b => Res.ok (D.bl b, μ) | none => .no) = _; rw [show kitB "str" "tuple" = some false by decide +kernel])
theorem isi_tuple_tup {μ : Mu} {ds : List D} : dIsi "tuple" (.tup ds) μ = .ok (.bl true, μ) := by first | rfl | (show (match kitB "tuple" "tuple" with | some b => Res.ok (D.bl b, μ) | none => .no) = _; rw [show kitB "tuple" "tuple" = some true by decide +kernel])
theorem isi_tuple_lst {μ : Mu} {ds : List D} : dIsi "tuple" (.lst ds) μ = .ok (.bl false, μ) := by first | rfl | (show (match kitB "list" "tuple" with | some b => Res.ok (D.bl b, μ) | none => .no) = _; rw [show kitB "list" "tuple" = some false by decide +kernel])
theorem isi_list_str {μ : Mu} {x : List Nat} : dIsi "list" (.str x) μ = .ok (.bl false, μ) := by first | rfl | (show (match kitB "str" "list" with | some b => Res.ok (D.bl b, μ) | none => .no) = _; rw [show kitB "str" "list" = some false by decide +kernel])
theorem isi_list_tup {μ : Mu} {ds : List D} : dIsi "list" (.tup ds) μ = .ok (.bl false, μ) := by first | rfl | (show (match kitB "tuple" "list" with | some b => Res.ok (D.bl b, μ) | none => .no) = _; rw [show kitB "tuple" "list" = some false by decide +kernel])
theorem isi_list_lst {μ : Mu} {ds : List D} : dIsi "list" (.lst ds) μ = .ok (.bl true, μ) := by first | rfl | (show (match kitB "list" "list" with | some b => Res.ok (D.bl b, μ) | none => .no) = _; rw [show kitB "list" "list" = some true by decide +kernel])
theorem isT_str {T : String} {x : List Nat} {μ : Mu} : isT T (.str x) μ = (T == "str") := rfl
theorem m_lower1 {c : Nat} {μ : Mu} (h : c < 128) : mLower (.str [c]) [] μ = .ok (.str [loC c], μ) := if_pos ⟨by simp, by simpa using h⟩
theorem m_upper1 {c : Nat} {μ : Mu} (h : c < 128) : mUpper (.str [c]) [] μ = .ok (.str [upC c], μ) := if_pos ⟨by simp, by simpa using h⟩
theorem isT_s {x : List Nat} {μ : Mu} : isT "str" (.str x) μ = true := by show ("str" == "str") = true; exact beq_self_eq_true _
theorem isT_r {n : Nat} {ds : List D} {μ : Mu} (h : μ[n]? = some (.lst ds)) : isT "list" (.ref n) μ = true := by
  unfold isT lof
  simp only [h, Option.isSome_some, if_true, beq_self_eq_true]
theorem cast_lit {n : Nat} : ((OfNat.ofNat n : Nat) : Int) = (OfNat.ofNat n : Int) := rfl
noncomputable def ofOt : Option Ot → Res (D × Mu)
  | some (.rt d μ') => .ok (d, μ')
  | some (.nx _ μ') => .ok (.non, μ')
  | some (.xc c fs _ μ') => .ex c fs μ'
  | _ => .no
theorem bodyF_eq {n : Nat} {m : SM} {ds : List D} {μ : Mu} : bodyF n m ds μ = ofOt (m (ds.map some ++ List.replicate (n - ds.length) none) μ) := id rfl
theorem ofOt_rt {d μ} : ofOt (some (.rt d μ)) = .ok (d, μ) := id rfl
theorem ofOt_nx {e μ} : ofOt (some (.nx e μ)) = .ok (.non, μ) := id rfl
theorem ofOt_xc {c fs e μ} : ofOt (some (.xc c fs e μ)) = .ex c fs μ := id rfl
theorem ofOt_ite {p : Prop} [Decidable p] {a b : Option Ot} : ofOt (if p then a else b) = if p then ofOt a else ofOt b := by split <;> rfl
theorem forGo_inv {T : Tg} {b : SM} {ds : List D} {f : Nat} {e : Ev} {μ : Mu} (I : Nat → Ev → Mu → Prop) (h0 : I 0 e μ) (hf : ds.length < f)
    (step : ∀ (i : Nat) d e μ, ds[i]? = some d → I i e μ → ∃ e1, setT T d e = some e1 ∧ ∃ e2 μ2, (b e1 μ = some (.nx e2 μ2) ∨ b e1 μ = some (.ct e2 μ2)) ∧ I (i + 1) e2 μ2) :
    ∃ e2 μ2, forGo T b (.fix ds) f 0 e μ = some (.nx e2 μ2) ∧ I ds.length e2 μ2 := by
  have main : ∀ (n i f : Nat) (e : Ev) (μ : Mu), ds.length - i = n → i ≤ ds.length → ds.length - i < f → I i e μ → ∃ e2 μ2, forGo T b (.fix ds) f i e μ = some (.nx e2 μ2) ∧ I ds.length e2 μ2 := by
    intro n
    induction n with
    | zero =>
      intro i f e μ hn hi hf hI
      have : i = ds.length := by omega
      subst this
      obtain ⟨f, rfl⟩ : ∃ g, f = g + 1 := ⟨f - 1, by omega⟩
      exact ⟨e, μ, by simp [forGo, items], hI⟩
    | succ n ih =>
      intro i f e μ hn hi hf hI
      have hlt : i < ds.length := by omega
      obtain ⟨f, rfl⟩ : ∃ g, f = g + 1 := ⟨f - 1, by omega⟩
      have hd : ds[i]? = some ds[i] := List.getElem?_eq_getElem hlt
      obtain ⟨e1, h1, e2, μ2, h2, hI2⟩ := step i _ e μ hd hI
      obtain ⟨e3, μ3, h3, h4⟩ := ih (i + 1) f e2 μ2 (by omega) (by omega) (by omega) hI2
      refine ⟨e3, μ3, ?_, h4⟩
      unfold forGo
      simp only [items, hd, h1]
      rcases h2 with h2 | h2 <;> rw [h2] <;> exact h3
  exact main _ 0 f e μ rfl (Nat.zero_le _) (by simpa using hf) h0
theorem forGo_find {T : Tg} {b : SM} {ds : List D} {f : Nat} {e : Ev} {μ : Mu} (I : Nat → Ev → Mu → Prop) (R : D → Mu → Prop) (h0 : I 0 e μ) (hf : ds.length < f)
    (step : ∀ (i : Nat) d e μ, ds[i]? = some d → I i e μ → ∃ e1, setT T d e = some e1 ∧ ((∃ e2 μ2, (b e1 μ = some (.nx e2 μ2) ∨ b e1 μ = some (.ct e2 μ2)) ∧ I (i + 1) e2 μ2) ∨ ∃ v μ2, b e1 μ = some (.rt v μ2) ∧ R v μ2)) :
    (∃ e2 μ2, forGo T b (.fix ds) f 0 e μ = some (.nx e2 μ2) ∧ I ds.length e2 μ2) ∨ ∃ v μ2, forGo T b (.fix ds) f 0 e μ = some (.rt v μ2) ∧ R v μ2 := by
  have main : ∀ (n i f : Nat) (e : Ev) (μ : Mu), ds.length - i = n → i ≤ ds.length → ds.length - i < f → I i e μ → (∃ e2 μ2, forGo T b (.fix ds) f i e μ = some (.nx e2 μ2) ∧ I ds.length e2 μ2) ∨ ∃ v μ2, forGo T b (.fix ds) f i e μ = some (.rt v μ2) ∧ R v μ2 := by
    intro n
    induction n with
    | zero =>
      intro i f e μ hn hi hf hI
      have : i = ds.length := by omega
      subst this
      obtain ⟨f, rfl⟩ : ∃ g, f = g + 1 := ⟨f - 1, by omega⟩
      exact .inl ⟨e, μ, by simp [forGo, items], hI⟩
    | succ n ih =>
      intro i f e μ hn hi hf hI
      have hlt : i < ds.length := by omega
      obtain ⟨f, rfl⟩ : ∃ g, f = g + 1 := ⟨f - 1, by omega⟩
      have hd : ds[i]? = some ds[i] := List.getElem?_eq_getElem hlt
      obtain ⟨e1, h1, h⟩ := step i _ e μ hd hI
      rcases h with ⟨e2, μ2, h2, hI2⟩ | ⟨v, μ2, h2, hR⟩
      · have q := ih (i + 1) f e2 μ2 (by omega) (by omega) (by omega) hI2
        have e : forGo T b (.fix ds) (f + 1) i e μ = forGo T b (.fix ds) f (i + 1) e2 μ2 := by
          rw [forGo]
          simp only [items, hd, h1]
          rcases h2 with h2 | h2 <;> rw [h2]
        rw [e]
        exact q
      · refine .inr ⟨v, μ2, ?_, hR⟩
        unfold forGo
        simp only [items, hd, h1, h2]
  exact main _ 0 f e μ rfl (Nat.zero_le _) (by simpa using hf) h0
theorem range_get {lo : Int} {n i : Nat} {d : D} (h : (rangeD lo n)[i]? = some d) : i < n ∧ d = .int (lo + i) := by
  unfold rangeD at h
  rw [List.getElem?_map] at h
  by_cases hi : i < n
  · rw [List.getElem?_range hi] at h
    cases h
    exact ⟨hi, rfl⟩
  · rw [List.getElem?_eq_none (by simp; omega)] at h
    cases h
theorem rangeD_len {lo : Int} {n : Nat} : (rangeD lo n).length = n := by simp [rangeD]
end Lr
namespace Lr
open PySem L2
noncomputable def rangeC (lo c : Int) (n : Nat) : List D := (List.range n).map fun i => .int (lo + (i : Nat) * c)
noncomputable def iRange3 (ms : MA) : MI := fun e μ => (ms e μ).bind fun x => match x.1 with
  | [.int i, .int j, .int c] => if c ≠ 0 ∧ c.natAbs < 1073741824 ∧ Builtin.Range.small i j c = true then .ok (.fix (rangeC i c (Builtin.Range.rangeSize i j c).toNat), x.2) else .no
  | _ => .no
section
variable {nm : Nm} {X : Cx} {W : XW} {a b c tg : Expr} {pos p : Pos}
end
noncomputable def kR3 (ra : Res (List D × Mu)) : Res (Src × Mu) := ra.bind fun x => match x.1 with
  | [.int i, .int j, .int c] => if c ≠ 0 ∧ c.natAbs < 1073741824 ∧ Builtin.Range.small i j c = true then .ok (.fix (rangeC i c (Builtin.Range.rangeSize i j c).toNat), x.2) else .no
  | _ => .no
theorem e_range3 {ms : MA} {e : Ev} {μ : Mu} : iRange3 ms e μ = kR3 (ms e μ) := id rfl
theorem rangeC_len {lo c : Int} {n : Nat} : (rangeC lo c n).length = n := by simp [rangeC]
end Lr
namespace Lr
open PySem L2
section
variable {μ : Mu} {n : Nat} {i j : Int} {x : List Nat} {xs ds : List D} {y d : D} {e : Ev} {fl : Bool} {k : Nat}
noncomputable def kApp (o : Option D) (n : Nat) (y : D) (μ : Mu) : Res (D × Mu) := match o with
  | some (.lst xs) => if xs.length < lineN then .ok (.non, μ.set n (.lst (xs ++ [y]))) else .no
  | _ => .no
theorem m_append : mAppend (.ref n) [y] μ = kApp (μ[n]?) n y μ := by
  unfold mAppend lst1 kApp
  try dsimp only
  all_goals (split <;> simp_all)
theorem kApp1 (h : xs.length < lineN) : kApp (some (.lst xs)) n y μ = .ok (.non, μ.set n (.lst (xs ++ [y]))) := if_pos h
noncomputable def kLen (o : Option D) (μ : Mu) : Res (D × Mu) := match o with
  | some (.lst xs) => .ok (.int xs.length, μ)
  | some (.dic xs) => .ok (.int xs.length, μ)
  | some (.dit xs) => .ok (.int xs.length, μ)
  | _ => .no
theorem d_lenR : dLen [.ref n] μ = kLen (μ[n]?) μ := by
  unfold dLen kLen lof dof
  dsimp only
  cases μ[n]? with
  | none => rfl
  | some o => cases o <;> rfl
theorem kLen1 : kLen (some (.lst xs)) μ = .ok (.int xs.length, μ) := id rfl
noncomputable def kSl (o : Option D) (fl : Bool) (lo hi : Option Int) (μ : Mu) : Res (D × Mu) := match o with
  | some (.lst ds) => .ok (mkL fl (cutL ds lo hi) μ)
  | _ => .no
theorem d_slR {lo hi : Option Int} : dSl fl (.ref n) lo hi μ = kSl (μ[n]?) fl lo hi μ := by
  unfold dSl kSl lof
  dsimp only
  cases μ[n]? with
  | none => rfl
  | some o => cases o <;> rfl
theorem kSl1 {lo hi : Option Int} : kSl (some (.lst ds)) fl lo hi μ = .ok (mkL fl (cutL ds lo hi) μ) := id rfl
theorem d_pow (h0 : 0 ≤ j) (h1 : j ≤ 1000000) (h2 : i.natAbs < 2 ^ 64) : dPow (.int i) (.int j) μ = .ok (.int (i ^ j.toNat), μ) := if_pos ⟨h0, h1, h2⟩
theorem d_pow1020 : dPow (.int 10) (.int 20) μ = .ok (.int 100000000000000000000, μ) := by rw [d_pow (by decide) (by decide) (by decide)]; rfl
theorem d_mulS {k : Int} (h0 : 0 ≤ k) (h1 : k < 1000000) (h2 : x.length * k.toNat ≤ lineN) : dMul fl (.str x) (.int k) μ = .ok (.str (List.replicate k.toNat x).flatten, μ) := if_pos ⟨by omega, by omega, h2⟩
theorem d_intB {b : Bool} : dInt [.bl b] μ = .ok (.int (if b then 1 else 0), μ) := id rfl
theorem d_intI : dInt [.int i] μ = .ok (.int i, μ) := id rfl
theorem d_max2 : dMax2 [.int i, .int j] μ = .ok (.int (max i j), μ) := id rfl
theorem d_min2 : dMin2 [.int i, .int j] μ = .ok (.int (min i j), μ) := id rfl
theorem d_tupleL : dTuple [.lst xs] μ = .ok (.tup xs, μ) := id rfl
theorem d_tupleT : dTuple [.tup xs] μ = .ok (.tup xs, μ) := id rfl
theorem d_listT : dList fl [.tup xs] μ = .ok (mkL fl xs μ) := id rfl
theorem d_listL : dList fl [.lst xs] μ = .ok (mkL fl xs μ) := id rfl
theorem d_fldO {c : Nat} : dFld c k (.obj c ds) μ = (match ds[k]? with | some x => .ok (x, μ) | none => .no) := by
  unfold dFld oof
  simp only [if_true]
  all_goals rfl
theorem strsOf_map {zs : List (List Nat)} : strsOf (zs.map D.str) = some zs := by
  induction zs with
  | nil => rfl
  | cons b r ih => rw [List.map_cons]; unfold strsOf; rw [ih]; rfl
theorem joinL_nil : ∀ zs : List (List Nat), joinL [] zs = zs.flatten := by
  intro zs
  induction zs with
  | nil => rfl
  | cons z r ih =>
    cases r with
    | nil => simp [joinL]
    | cons w r => show z ++ [] ++ joinL [] (w :: r) = _; rw [ih]; simp
theorem m_joinL {zs : List (List Nat)} (h : (zs.map List.length).sum ≤ lineN) : mJoin (.str []) [.lst (zs.map D.str)] μ = .ok (.str zs.flatten, μ) := by
  unfold mJoin seqD lof
  simp only [strsOf_map, List.length_nil, Nat.mul_zero, Nat.add_zero, joinL_nil]
  rw [if_pos h]
noncomputable def sgs (z : List Nat) : List (List Nat) := z.map fun c => [c]
theorem sgs_flat (z : List Nat) : (sgs z).flatten = z := by
  induction z with
  | nil => rfl
  | cons a r ih => unfold sgs at ih ⊢; rw [List.map_cons, List.flatten_cons, ih]; rfl
theorem sgs_sum (z : List Nat) : ((sgs z).map List.length).sum = z.length := by
  induction z with
  | nil => rfl
  | cons a r ih => unfold sgs at ih ⊢; rw [List.map_cons, List.map_cons, List.sum_cons, ih]; simp; omega
noncomputable def chL (z : List Nat) : List D := z.map fun c => D.str [c]
theorem chL_sgs (z : List Nat) : chL z = (sgs z).map D.str := by unfold chL sgs; rw [List.map_map]; rfl
theorem chL_len (z : List Nat) : (chL z).length = z.length := List.length_map ..
theorem m_joinC {z : List Nat} (h : z.length ≤ lineN) : mJoin (.str []) [.lst (chL z)] μ = .ok (.str z, μ) := by
  rw [chL_sgs, m_joinL (by rw [sgs_sum]; exact h), sgs_flat]
theorem mapO_id {α : Type} {f : α → Option α} : ∀ {zs : List α}, (∀ z ∈ zs, f z = some z) → mapO f zs = some zs
  | [], _ => rfl
  | z :: r, h => by
    unfold mapO
    rw [h z (by simp), mapO_id (zs := r) fun w hw => h w (by simp [hw])]
theorem pds_mem {ds : List D} (h : pds k ds = true) : ∀ d ∈ ds, pd k d = true := by
  induction ds with
  | nil => intro d h; simp at h
  | cons a r ih =>
    rw [pds_cons, Bool.and_eq_true] at h
    intro d hd
    rcases List.mem_cons.mp hd with e | e
    · rw [e]; exact h.1
    · exact ih h.2 d e
mutual
noncomputable def tpd : Nat → D → Bool
  | _, .non => true | _, .bl _ => true | _, .int _ => true | _, .str _ => true
  | k, .tup ds => match k with | 0 => false | k + 1 => tpds k ds
  | _, _ => false
noncomputable def tpds : Nat → List D → Bool
  | _, [] => true
  | k, d :: ds => tpd k d && tpds k ds
end
theorem vw_nr (h : nr d = true) : vw μ d = some d := if_pos h
end
theorem beqD_str {x y : List Nat} : beqD (.str x) (.str y) = decide (x = y) := by unfold beqD; simp only [toP, PyData.eqv]; rw [beq_S]
theorem len_lt {a : Nat} (h : a < 16777216) : a < lineN := h
noncomputable def kFlo (o : Option D) (m : Nat) (e : Ev) (c : Nat) (y : D) (j : Nat) (μ : Mu) : Option Ot := match o with
  | some (.obj c' ds) => if c' = c then (setF j y ds).map fun ds' => .nx e (μ.set m (.obj c ds')) else none
  | _ => none
theorem e_flO {m c j : Nat} {y : D} {e : Ev} {μ : Mu} : kFl2 (.ok (.ref m, μ)) e c y j = kFlo (μ[m]?) m e c y j μ := by
  unfold kFl2 kFlo
  rw [eThen_ok]
  all_goals try dsimp only
  all_goals cases μ[m]? with
  | none => rfl
  | some d => cases d <;> rfl
theorem kFlo1 {m c j : Nat} {y : D} {e : Ev} {μ : Mu} {ds : List D} (hj : j = ds.length) : kFlo (some (.obj c ds)) m e c y j μ = some (.nx e (μ.set m (.obj c (ds ++ [y])))) := by
  unfold kFlo setF
  dsimp only
  rw [if_pos rfl, if_neg (by omega), if_pos hj]; rfl
theorem cast2 : ((2 : Nat) : Int) = 2 := id rfl
theorem cast3 : ((3 : Nat) : Int) = 3 := id rfl
theorem cast4 : ((4 : Nat) : Int) = 4 := id rfl
theorem cast5 : ((5 : Nat) : Int) = 5 := id rfl
theorem cast6 : ((6 : Nat) : Int) = 6 := id rfl
theorem cast7 : ((7 : Nat) : Int) = 7 := id rfl
theorem cast8 : ((8 : Nat) : Int) = 8 := id rfl
theorem cast9 : ((9 : Nat) : Int) = 9 := id rfl
theorem cast10 : ((10 : Nat) : Int) = 10 := id rfl
theorem cast11 : ((11 : Nat) : Int) = 11 := id rfl
theorem cast12 : ((12 : Nat) : Int) = 12 := id rfl
theorem d_isB {a b : Bool} {μ : Mu} : dIs (.bl a) (.bl b) μ = .ok (.bl (decide (a = b)), μ) := id rfl
theorem d_isNotB {a b : Bool} {μ : Mu} : dIsNot (.bl a) (.bl b) μ = .ok (.bl (!decide (a = b)), μ) := id rfl
noncomputable def kAs (o : Option Ev) (μ : Mu) : Option Ot := match o with
  | some e => some (.nx e μ)
  | none => none
theorem e_asg2 {x : D} {μ : Mu} {e : Ev} {T : Tg} : kAsg (.ok (x, μ)) e T = kAs (setT T x e) μ := by
  unfold kAsg kAs
  rw [eThen_ok]
  cases setT T x e <;> rfl
theorem kAs1 {μ : Mu} {e : Ev} : kAs (some e) μ = some (.nx e μ) := id rfl
noncomputable def kTs (o : Option Ev) (ts : List Tg) (ds : List D) : Option Ev := match o with
  | some e' => setTs ts ds e'
  | none => none
theorem setT_tp {ts : List Tg} {ds : List D} {e : Ev} : setT (.tp ts) (.tup ds) e = setTs ts ds e := by rw [setT]
theorem setTs_cons {t : Tg} {ts : List Tg} {d : D} {ds : List D} {e : Ev} : setTs (t :: ts) (d :: ds) e = kTs (setT t d e) ts ds := by
  rw [setTs]
  unfold kTs
  cases setT t d e <;> rfl
theorem setTs_nil {e : Ev} : setTs [] [] e = some e := by rw [setTs]
theorem kTs1 {ts : List Tg} {ds : List D} {e : Ev} : kTs (some e) ts ds = setTs ts ds e := id rfl
end Lr
namespace Lr
open PySem L2
end Lr
namespace PySem.LrSort
open PySem PySem.Calls PyProof.Rows PySem.W
section
variable {prog : Program} {w : World} {A : Around} {E : Value → Shared → Prop} {s : Shared}
theorem sortedS {x : Str} {t : Tok} {Q : Value → Shared → Prop} (hh : A.handled = none) (hn : x.cps.size ≤ sizeLine)
    (h : ∀ (h' : Heap) (tk : Nat) (acc : Array Value), (∀ b o, s.heap.get? b = some o → h'.get? b = some o) → ItemsOf (SignAt x) acc x.cps.size →
      wpAny (model prog w) A.in1 (call (.builtin "list.sort") [.ref h'.objs.size]) (fun _ s' => Q (.ref h'.objs.size) s') E { s with heap := h'.push { cls := .type "list", data := .seq acc }, toks := tk }) :
    wpAny (model prog w) A (call (.builtin "sorted") [.str x t]) Q E s := by
  refine call_function_entry kind_sorted plain_sorted entry_sorted (args_sorted1 _) ?_
  unfold Builtin.«sorted»
  refine wpAny_bind (m := checkCount "sorted" 1 1 _) (wpAny_pure ?_)
  refine wpAny_bind (wpAny_collect_str (A := A.in1) (hn := hn) hh x t fun s1 acc hk hg hd ho hacc => ?_)
  refine wpAny_bind (wpAny_newList ?_ (by rw [Array.length_toList, hacc.1]; exact hn))
  obtain ⟨h', g', d', tk', os'⟩ := s1
  have e1 : g' = s.gens := hg
  have e2 : d' = s.drawn := hd
  have e3 : os' = s.os := ho
  subst e1 e2 e3
  have hg := h h' tk' acc hk hacc
  have ea : acc.toList.toArray = acc := by simp
  rw [← ea] at hg
  refine wpAny_bind (wpAny_holding (wpAny_mono hg (fun _ s' x => ?_) fun _ _ e => e))
  exact wpAny_pure ⟨_, rfl, x⟩
end
end PySem.LrSort
namespace Lr
open PySem L2
noncomputable def encC (c : Nat) : PyData := .str ⟨#[c]⟩
noncomputable def srtC (z : List Nat) : List Nat := z.mergeSort (PySem.W.dataLe false encC)
theorem srtC_len (z : List Nat) : (srtC z).length = z.length := List.length_mergeSort ..
theorem srtC_mem (z : List Nat) (c : Nat) : c ∈ srtC z ↔ c ∈ z := (List.mergeSort_perm z _).mem_iff
noncomputable def rSortC : List V → Hp → VK → Prop := fun xs H Q => ∃ x : Str, xs = [.str x] ∧ x.cps.size ≤ 16777216 ∧ ∀ p, H p = none → Q (.ref p) (upd H p (.lst ((srtC x.cps.toList).map fun c => V.str ⟨#[c]⟩)))
theorem vals_C : ∀ {out : List Value} {cs : List Nat}, PySem.W.EachIs (fun v c => ∃ t, v = Value.str ⟨#[c]⟩ t) out cs → Vals (cs.map fun c => V.str ⟨#[c]⟩) out
  | _, _, .nil => .nil
  | _, _, .cons ⟨t, h⟩ r => .cons ⟨t, h⟩ (vals_C r)
theorem items_C {x : Str} {acc : Array Value} (h : ItemsOf (SignAt x) acc x.cps.size) : PySem.W.EachIs (fun v c => ∃ t, v = Value.str ⟨#[c]⟩ t) acc.toList x.cps.toList := by
  refine PySem.W.EachIs.of_zip (by rw [Array.length_toList, Array.length_toList, h.1]) fun p hp => ?_
  obtain ⟨i, hi, e⟩ := List.getElem_of_mem hp
  rw [List.length_zip, Array.length_toList, Array.length_toList, h.1, Nat.min_self] at hi
  rw [List.getElem_zip] at e
  subst e
  obtain ⟨c, u, h1, h2⟩ := h.2 i (acc[i]'(by rw [h.1]; exact hi)) (Array.getElem?_eq_getElem _)
  rw [Array.getElem?_eq_getElem hi] at h1
  cases h1
  exact ⟨u, by simpa using h2⟩
section
variable {X : Cx}
theorem cr_sortedC (hc : X.calm = true) (hu : X.A.units + 64 < cLine) : CallR X (.builtin "sorted") rSortC := by
  intro pins s σ H vs us Q I r h
  obtain ⟨x, rfl, hx, q⟩ := h
  cases r with
  | cons r1 r2 =>
    cases r2
    obtain ⟨t, rfl⟩ := r1
    refine PySem.LrSort.sortedS (I.ok.hd hc) hx fun h' tk acc hk hacc => ?_
    have hnew : s.heap.get? h'.objs.size = none := by
      cases e : s.heap.get? h'.objs.size with
      | none => rfl
      | some o => exact absurd (Heap.lt_size (hk _ _ e)) (Nat.lt_irrefl _)
    have hH : H h'.objs.size = none := I.hok.gone hnew
    have ea : acc.toList.toArray = acc := by simp
    have ho : (h'.push { cls := .type "list", data := .seq acc }).get? h'.objs.size = some (PyProof.Rows.seqObj "list" acc.toList.toArray 0) := by rw [ea]; exact Heap.get?_push_size _ rfl
    have ei := items_C hacc
    refine PySem.W.list_sort_data (s := { s with heap := h'.push { cls := .type "list", data := .seq acc }, toks := tk }) (bs := x.cps.toList) (enc := encC) (R := fun v c => ∃ t, v = Value.str ⟨#[c]⟩ t) ho ei
      (ei.mono fun v c ⟨t, e⟩ => ⟨[], by rw [e]; exact .str _ _, by simp⟩) (PySem.W.AllAlike.of fun b b' => by simp [encC, PySem.W.alike]) (PySem.W.Sortable.others fun b => ⟨by simp [encC], by simp [encC]⟩)
      (by rw [Array.length_toList]; exact hx) (fun b _ => by show X.A.in1.units + 1 + (encC b).depth < cLine; simp only [encC, PyData.depth]; have : X.A.in1.units = X.A.units + 1 := rfl; omega) fun out hl eo => ?_
    obtain ⟨ep, he'⟩ := PyProof.Rows.sortedHeap_at (vs := acc.toList) (out := List.toArray out) ho
    have hlen : (((srtC x.cps.toList).map fun c => V.str ⟨#[c]⟩)).length ≤ sizeLine := by rw [List.length_map, srtC_len, Array.length_toList]; exact hx
    refine ⟨.ref _, _, I.laidN (t' := tk) (h' := PyProof.Rows.sortedHeap (h'.push { cls := .type "list", data := .seq acc }) h'.objs.size acc.toList (List.toArray out)) (o := .lst ((srtC x.cps.toList).map fun c => V.str ⟨#[c]⟩)) (fun b u e => ?_) hnew hH ⟨hlen, out, ep, vals_C eo, he'⟩, rfl, q _ hH⟩
    have hb := Heap.lt_size (hk b u e)
    rw [PyProof.Rows.sortedHeap_old (Nat.ne_of_lt hb) (by rw [Heap.size_push]; exact Nat.lt_succ_of_lt hb)]
    exact Heap.get?_push_of_some _ (hk b u e)
end
section
variable {nm : Nm} {X : Cx} {W : XW}
noncomputable def dSorted (fl : Bool) : FN := fun ds μ => match ds with
  | [.str z] => if z.length ≤ lineN then .ok (mkL fl (chL (srtC z)) μ) else .no
  | _ => .no
theorem reps_chL {t : Ct} {G : Hp} {ρ : List Addr} : ∀ {z : List Nat}, (∀ c ∈ z, c < 1114112) → reps t G ρ (chL z) (z.map fun c => V.str ⟨#[c]⟩)
  | [], _ => rfl
  | c :: r, h => ⟨_, _, rfl, ⟨rfl, okS_mk (by simp [lineN]) (by simpa using h c (by simp))⟩, reps_chL fun d hd => h d (by simp [hd])⟩
theorem opn_sorted {fl : Bool} : OpN nm X W (dSorted fl) rSortC := by
  intro env μ σ H ρ G Q ds vs R r P
  unfold dSorted at P
  split at P
  · obtain ⟨v, r0, rfl, rv, hr⟩ := r
    cases hr
    obtain ⟨rfl, o⟩ := rv
    rename_i z
    split at P
    · rename_i hz
      have ecps : (S z).cps.size = z.length := by simp [S]
      refine ⟨S z, rfl, by rw [ecps]; exact hz, ?_⟩
      rw [S_cps]
      exact new_L R (reps_chL fun c hc => okS_mem o ((srtC_mem z c).mp hc)) P
    · exact P.elim
  · exact P.elim
end
end Lr
namespace Lr
open PySem L2
noncomputable abbrev encD (q : V × D) : PyData := toP q.2
noncomputable def rSortL (X : Cx) : List V → Hp → VK → Prop := fun xs H Q => ∃ (p : Addr) (ps : List (V × D)), xs = [.ref p] ∧ SqL X.K H p (ps.map Prod.fst) ∧ (∀ q ∈ ps, Dp X.K H q.1 (toP q.2)) ∧ PySem.W.AllAlike (ps.map encD) ∧ PySem.W.Sortable (ps.map encD) ∧
  ps.length ≤ 16777216 ∧ (∀ q ∈ ps, (toP q.2).depth ≤ 20) ∧ ∀ l, H l = none → Q (.ref l) (upd H l (.lst ((ps.mergeSort (PySem.W.dataLe false encD)).map Prod.fst)))
theorem each_V : ∀ {out : List Value} {ps : List (V × D)}, PySem.W.EachIs (fun v q => RelV q.1 v) out ps → Vals (ps.map Prod.fst) out
  | _, _, .nil => .nil
  | _, _, .cons h r => .cons h (each_V r)
theorem V_each : ∀ {ps : List (V × D)} {out : List Value}, Vals (ps.map Prod.fst) out → PySem.W.EachIs (fun v q => RelV q.1 v) out ps
  | [], _, h => by cases h; exact .nil
  | p :: ps, _, h => by
    cases h with
    | cons h r => exact .cons h (V_each r)
theorem each_memP {R : Value → V × D → Prop} : ∀ {out : List Value} {ps : List (V × D)}, PySem.W.EachIs R out ps → PySem.W.EachIs (fun v q => R v q ∧ q ∈ ps) out ps
  | _, _, .nil => .nil
  | _, _, .cons h r => .cons ⟨h, by simp⟩ ((each_memP r).mono fun _ _ ⟨a, b⟩ => ⟨a, by simp [b]⟩)
section
variable {X : Cx}
theorem cr_sortedL (hu : X.A.units + 64 < cLine) : CallR X (.builtin "sorted") (rSortL X) := by
  intro pins s σ H vs us Q I r h
  obtain ⟨p, ps, rfl, hs, hd, hal, hk, hz, hdep, q⟩ := h
  obtain ⟨its, rv, hl, _⟩ := I.list hs
  rw [Vals.ref1 r]
  have ei := V_each rv
  refine PySem.W.sorted_data (R := fun v q => RelV q.1 v) (bs := ps) (enc := encD) hl.isList ei ((each_memP ei).mono fun v q ⟨rx, hm⟩ => Dp.reads I (toP q.2) q.1 v (hd q hm) rx) hal hk (by rw [sizeLine_eq]; exact hz) (fun b hb => by have := hdep b hb; show X.A.units + 2 + (toP b.2).depth < cLine; omega) fun out ho eo => ?_
  obtain ⟨ep, he'⟩ := PyProof.Rows.sortedAll_at s.heap its (List.toArray out)
  have hlen : ((ps.mergeSort (PySem.W.dataLe false encD)).map Prod.fst).length ≤ sizeLine := by rw [List.length_map, List.length_mergeSort, sizeLine_eq]; exact hz
  exact ⟨.ref _, _, I.laid (a := s.heap.objs.size + 1) (o := .lst ((ps.mergeSort (PySem.W.dataLe false encD)).map Prod.fst)) (t' := s.toks) (fun _ _ => PyProof.Rows.sortedAll_old) (Nat.le_succ _) ⟨hlen, out, ep, each_V eo, he'⟩, rfl, q _ (I.hok.fresh (Nat.le_succ _))⟩
end
noncomputable def tupNe : D → Bool
  | .tup (_ :: _) => true
  | _ => false
noncomputable def noTup : D → Bool
  | .int _ => true | .str _ => true | .bl _ => true
  | _ => false
noncomputable def okSort (ds : List D) : Bool := (ds.all fun a => ds.all fun b => PySem.W.alike (toP a) (toP b)) && (ds.all tupNe || ds.all noTup) && pds 20 ds && decide (ds.length ≤ lineN)
noncomputable def srtD (ds : List D) : List D := ds.mergeSort (PySem.W.dataLe false toP)
noncomputable def dSortL (fl : Bool) : FN := fun ds μ => match ds with
  | [.str z] => if z.length ≤ lineN then .ok (mkL fl (chL (srtC z)) μ) else .no
  | [d] => match lof d μ with
    | some xs => if okSort xs = true then .ok (mkL fl (srtD xs) μ) else .no
    | none => .no
  | _ => .no
section
variable {nm : Nm} {X : Cx} {W : XW}
theorem reps_zip {t : Ct} {G : Hp} {ρ : List Addr} : ∀ {ds : List D} {vs : List V}, reps t G ρ ds vs → ∃ ps : List (V × D), ps.map Prod.fst = vs ∧ ps.map Prod.snd = ds ∧ ∀ q ∈ ps, rep t G ρ q.2 q.1
  | [], _, h => by cases h; exact ⟨[], rfl, rfl, fun _ h => by simp at h⟩
  | d :: ds, _, ⟨v, r, e, h1, h2⟩ => by
    subst e
    obtain ⟨ps, a, b, c⟩ := reps_zip h2
    refine ⟨(v, d) :: ps, by simp [a], by simp [b], fun q hq => ?_⟩
    rcases List.mem_cons.mp hq with h | h
    · rw [h]; exact h1
    · exact c q h
theorem reps_of {t : Ct} {G : Hp} {ρ : List Addr} : ∀ {ps : List (V × D)}, (∀ q ∈ ps, rep t G ρ q.2 q.1) → reps t G ρ (ps.map Prod.snd) (ps.map Prod.fst)
  | [], _ => rfl
  | p :: ps, h => ⟨_, _, rfl, h p (by simp), reps_of fun q hq => h q (by simp [hq])⟩
theorem opn_sortL {fl : Bool} : OpN nm X W (dSortL fl) (fun xs H Q => rSortC xs H Q ∨ rSortL X xs H Q) := by
  intro env μ σ H ρ G Q ds vs R r P
  unfold dSortL at P
  split at P
  · exact .inl (opn_sorted (fl := fl) env μ σ H ρ G Q _ vs R r P)
  · obtain ⟨v, r0, rfl, rv, hr⟩ := r
    cases hr
    split at P
    · rename_i xs e0
      obtain ⟨a, ws, rfl, hq, rs⟩ := lof_ok R rv e0
      split at P
      · rename_i hz
        unfold okSort at hz
        simp only [Bool.and_eq_true, Bool.or_eq_true, decide_eq_true_eq, List.all_eq_true] at hz
        obtain ⟨⟨⟨h1, h2⟩, h3⟩, h4⟩ := hz
        obtain ⟨ps, b1, b2, b3⟩ := reps_zip rs
        have hp : ∀ q ∈ ps, q.2 ∈ xs := fun q hq => by rw [← b2]; exact List.mem_map.mpr ⟨q, hq, rfl⟩
        have hd : ∀ q ∈ ps, DpK X H 20 q.1 (toP q.2) := fun q hq => pd_ok R 20 q.2 q.1 (b3 q hq) (pds_mem h3 _ (hp q hq))
        refine .inr ⟨a, ps, rfl, by rw [b1]; exact hq, fun q hq => (hd q hq).1, ?_, ?_, ?_, fun q hq => (hd q hq).2.2, ?_⟩
        · intro d hd d' hd'
          obtain ⟨q, hq, rfl⟩ := List.mem_map.mp hd
          obtain ⟨q', hq', rfl⟩ := List.mem_map.mp hd'
          exact h1 _ (hp q hq) _ (hp q' hq')
        · rcases h2 with h2 | h2
          · refine .inl fun d hd => ?_
            obtain ⟨q, hq, rfl⟩ := List.mem_map.mp hd
            have := h2 _ (hp q hq)
            unfold tupNe at this
            split at this
            · rename_i x y e
              show ∃ x r, toP q.2 = _
              rw [e]
              exact ⟨_, _, rfl⟩
            · cases this
          · refine .inr fun d hd => ?_
            obtain ⟨q, hq, rfl⟩ := List.mem_map.mp hd
            have := h2 _ (hp q hq)
            unfold noTup at this
            show toP q.2 ≠ _ ∧ ∀ xs, toP q.2 ≠ _
            split at this
            · rename_i e; rw [e]; simp [toP]
            · rename_i e; rw [e]; simp [toP]
            · rename_i e; rw [e]; simp [toP]
            · cases this
        · have : ps.length = xs.length := by rw [← b2, List.length_map]
          rw [this]; exact h4
        · have e1 : srtD xs = (ps.mergeSort (PySem.W.dataLe false encD)).map Prod.snd := by
            unfold srtD
            rw [← b2]
            exact (List.map_mergeSort (r := PySem.W.dataLe false encD) (s := PySem.W.dataLe false toP) (f := Prod.snd) (l := ps) (fun _ _ _ _ => rfl)).symm
          rw [e1] at P
          exact new_L R (reps_of fun q hq => b3 q ((List.mergeSort_perm ps _).mem_iff.mp hq)) P
      · exact P.elim
    · exact P.elim
  · exact P.elim
theorem cr_sortL (hc : X.calm = true) (hu : X.A.units + 64 < cLine) : CallR X (.builtin "sorted") (fun xs H Q => rSortC xs H Q ∨ rSortL X xs H Q) := (cr_sortedC hc hu).or (cr_sortedL hu)
end
theorem d_sortLS {fl : Bool} {z : List Nat} {μ : Mu} (h : z.length ≤ lineN) : dSortL fl [.str z] μ = .ok (mkL fl (chL (srtC z)) μ) := if_pos h
end Lr
namespace PySem.LrSort
open PySem PySem.Calls PyProof.Rows PySem.W
section
variable {prog : Program} {w : World} {A : Around} {E : Value → Shared → Prop} {s : Shared}
theorem sortedK {T : String} {r d : Addr} {n : Nat} {P : Nat → Value → Prop} {OK : Heap → Prop} {Q : Value → Shared → Prop} (K : KdlSrc prog w T r d n P OK) (hh : A.handled = none) (hok : OK s.heap) (hn : n ≤ sizeLine)
    (h : ∀ (h' : Heap) (tk : Nat) (acc : Array Value), (∀ b o, s.heap.get? b = some o → h'.get? b = some o) → ItemsOf P acc n →
      wpAny (model prog w) A.in1 (call (.builtin "list.sort") [.ref h'.objs.size]) (fun _ s' => Q (.ref h'.objs.size) s') E { s with heap := h'.push { cls := .type "list", data := .seq acc }, toks := tk }) :
    wpAny (model prog w) A (call (.builtin "sorted") [.ref r]) Q E s := by
  refine call_function_entry kind_sorted plain_sorted entry_sorted (args_sorted1 _) ?_
  unfold Builtin.«sorted»
  refine wpAny_bind (m := checkCount "sorted" 1 1 _) (wpAny_pure ?_)
  refine wpAny_bind (kdu_collect (A := A.in1) K hh hok hn fun h' tk acc hk hacc => ?_)
  refine wpAny_bind (wpAny_newList ?_ (by rw [Array.length_toList, hacc.1]; exact hn))
  have hg := h h' tk acc hk hacc
  have ea : acc.toList.toArray = acc := by simp
  rw [← ea] at hg
  refine wpAny_bind (wpAny_holding (wpAny_mono hg (fun _ s' x => ?_) fun _ _ e => e))
  exact wpAny_pure ⟨_, rfl, x⟩
end
end PySem.LrSort
namespace Lr
open PySem L2
noncomputable def encS (z : Str) : PyData := .str z
theorem vals_S : ∀ {out : List Value} {zs : List Str}, PySem.W.EachIs (fun v z => ∃ t, v = Value.str z t) out zs → Vals (zs.map V.str) out
  | _, _, .nil => .nil
  | _, _, .cons ⟨t, h⟩ r => .cons ⟨t, h⟩ (vals_S r)
theorem S_vals : ∀ {zs : List Str} {out : List Value}, Vals (zs.map V.str) out → PySem.W.EachIs (fun v z => ∃ t, v = Value.str z t) out zs
  | [], _, h => by cases h; exact .nil
  | p :: ps, _, h => by
    cases h with
    | cons h r => exact .cons h (S_vals r)
noncomputable def rSortK : List V → Hp → VK → Prop := fun xs H Q => ∃ (a : Addr) (kvs : List (Key × V)) (zs : List Str), xs = [.ref a] ∧ Rd H a (.dK kvs) ∧ (kvs.map fun kv => kV kv.1) = zs.map V.str ∧
  ∀ l, H l = none → Q (.ref l) (upd H l (.lst ((zs.mergeSort (PySem.W.dataLe false encS)).map V.str)))
section
variable {X : Cx}
theorem cr_sortedK (hc : X.calm = true) (hu : X.A.units + 64 < cLine) : CallR X (.builtin "sorted") rSortK := by
  intro pins s σ H vs us Q I r h
  obtain ⟨a, kvs, zs, rfl, hd, ez, q⟩ := h
  rw [Vals.ref1 r]
  obtain ⟨z, lo, ws, rel, dd⟩ := dk_rd I.hok hd
  obtain ⟨ep, hat⟩ := dd.dictAt
  have ek : (kvs.map fun kv => kV kv.1) = ws.map fun p => kV p.1 := by
    have e := congrArg (List.map kV) rel.keys
    rw [List.map_map, List.map_map] at e
    exact e
  refine PySem.LrSort.sortedK (PySem.W.kdl_dict (knd := mixKind X.prog X.w) (kvs := ws) (ep := ep) lo) (I.ok.hd hc) hat (by rw [← rel.length]; exact z) fun h' tk acc hk hacc => ?_
  have hv : Vals (ws.map fun p => kV p.1) acc.toList := keys_at (by rw [Array.length_toList]; exact hacc.1) fun j v e => hacc.2 j v (by rw [← Array.getElem?_toList]; exact e)
  rw [← ek, ez] at hv
  have hzl : zs.length = kvs.length := by have := congrArg List.length ez; rw [List.length_map, List.length_map] at this; exact this.symm
  have hnew : s.heap.get? h'.objs.size = none := by
    cases e : s.heap.get? h'.objs.size with
    | none => rfl
    | some o => exact absurd (Heap.lt_size (hk _ _ e)) (Nat.lt_irrefl _)
  have hH : H h'.objs.size = none := I.hok.gone hnew
  have ea : acc.toList.toArray = acc := by simp
  have ho : (h'.push { cls := .type "list", data := .seq acc }).get? h'.objs.size = some (PyProof.Rows.seqObj "list" acc.toList.toArray 0) := by rw [ea]; exact Heap.get?_push_size _ rfl
  have ei := S_vals hv
  refine PySem.W.list_sort_data (s := { s with heap := h'.push { cls := .type "list", data := .seq acc }, toks := tk }) (bs := zs) (enc := encS) (R := fun v c => ∃ t, v = Value.str c t) ho ei
    (ei.mono fun v c ⟨t, e⟩ => ⟨[], by rw [e]; exact .str _ _, by simp⟩) (PySem.W.AllAlike.of fun b b' => by simp [encS, PySem.W.alike]) (PySem.W.Sortable.others fun b => ⟨by simp [encS], by simp [encS]⟩)
    (by rw [hzl]; exact z) (fun b _ => by show X.A.in1.units + 1 + (encS b).depth < cLine; simp only [encS, PyData.depth]; have : X.A.in1.units = X.A.units + 1 := rfl; omega) fun out hl eo => ?_
  obtain ⟨ep2, he'⟩ := PyProof.Rows.sortedHeap_at (vs := acc.toList) (out := List.toArray out) ho
  have hlen : ((zs.mergeSort (PySem.W.dataLe false encS)).map V.str).length ≤ sizeLine := by rw [List.length_map, List.length_mergeSort, hzl]; exact z
  refine ⟨.ref _, _, I.laidN (t' := tk) (h' := PyProof.Rows.sortedHeap (h'.push { cls := .type "list", data := .seq acc }) h'.objs.size acc.toList (List.toArray out)) (o := .lst ((zs.mergeSort (PySem.W.dataLe false encS)).map V.str)) (fun b u e => ?_) hnew hH ⟨hlen, out, ep2, vals_S eo, he'⟩, rfl, q _ hH⟩
  have hb := Heap.lt_size (hk b u e)
  rw [PyProof.Rows.sortedHeap_old (Nat.ne_of_lt hb) (by rw [Heap.size_push]; exact Nat.lt_succ_of_lt hb)]
  exact Heap.get?_push_of_some _ (hk b u e)
theorem call_listC (hc : X.calm = true) : CallR X (.type "list") (fun xs H Q => ∃ x : Str, xs = [.str x] ∧ x.cps.size ≤ 16777216 ∧ ∀ p, H p = none → Q (.ref p) (upd H p (.lst (x.cps.toList.map fun c => V.str ⟨#[c]⟩)))) := by
  intro pins s σ H vs us Q I r h
  obtain ⟨x, rfl, hx, q⟩ := h
  cases r with
  | cons r1 r2 =>
    cases r2
    obtain ⟨t, rfl⟩ := r1
    refine PySem.call_list_str (I.ok.hd hc) x t (fun h' tk acc c hk hat hacc => ?_) hx
    have hlen : ((x.cps.toList.map fun c => V.str ⟨#[c]⟩)).length ≤ sizeLine := by rw [List.length_map, Array.length_toList]; exact hx
    have ea : acc.toList.toArray = acc := by simp
    exact ⟨.ref _, _, I.laid (t' := tk) (o := .lst (x.cps.toList.map fun c => V.str ⟨#[c]⟩)) hk (Nat.le_refl _) ⟨hlen, acc.toList, c, vals_C (items_C hacc), by rw [ea]; exact hat⟩, rfl, q _ (I.hok.fresh (Nat.le_refl _))⟩
end
section
variable {nm : Nm} {X : Cx} {W : XW} {pos : Pos}
noncomputable def keysS : List (D × D) → Option (List (List Nat))
  | [] => some []
  | (.str x, _) :: r => (keysS r).map (x :: ·)
  | _ => none
theorem keysS_ok {t : Ct} {G : Hp} {ρ : List Addr} : ∀ {kvs : List (D × D)} {ks : List (Key × V)} {xs : List (List Nat)}, repk t G ρ kvs ks → keysS kvs = some xs → (ks.map fun kv => kV kv.1) = (xs.map S).map V.str
  | [], _, xs, h, e => by cases h; cases e; rfl
  | (k, d) :: r, _, xs, ⟨k', v, r', e1, hk, h1, h2⟩, e => by
    subst e1
    cases k with
    | str x =>
      simp only [keysS, Option.map_eq_some_iff] at e
      obtain ⟨ys, e2, rfl⟩ := e
      have hk' : k' = .inr (S x) := by
        have : keyOf (.str x) = some (.inr (S x)) := rfl
        rw [this] at hk
        exact (Option.some.inj hk).symm
      rw [List.map_cons, keysS_ok h2 e2, hk']
      rfl
    | _ => cases e
noncomputable def srtS (xs : List (List Nat)) : List (List Nat) := xs.mergeSort fun a b => PySem.W.dataLe false encS (S a) (S b)
theorem srtS_S (xs : List (List Nat)) : (xs.map S).mergeSort (PySem.W.dataLe false encS) = (srtS xs).map S := (List.map_mergeSort (r := fun a b => PySem.W.dataLe false encS (S a) (S b)) (s := PySem.W.dataLe false encS) (f := S) (l := xs) fun _ _ _ _ => rfl).symm
theorem srtS_D (xs : List (List Nat)) : srtD (xs.map D.str) = (srtS xs).map D.str := (List.map_mergeSort (r := fun a b => PySem.W.dataLe false encS (S a) (S b)) (s := PySem.W.dataLe false toP) (f := D.str) (l := xs) fun _ _ _ _ => rfl).symm
noncomputable def dSortA (fl : Bool) : FN := fun ds μ => match ds with
  | [d] => match dof d μ with
    | some (.dic kvs) => match keysS kvs with
      | some xs => if (xs.all okS) = true then .ok (mkL fl ((srtS xs).map D.str) μ) else .no
      | none => .no
    | _ => dSortL fl [d] μ
  | _ => .no
theorem reps_strs {t : Ct} {G : Hp} {ρ : List Addr} : ∀ {xs : List (List Nat)}, (∀ x ∈ xs, okS x = true) → reps t G ρ (xs.map D.str) ((xs.map S).map V.str)
  | [], _ => rfl
  | x :: r, h => ⟨_, _, rfl, ⟨rfl, h x (by simp)⟩, reps_strs fun y hy => h y (by simp [hy])⟩
theorem opn_sortA {fl : Bool} : OpN nm X W (dSortA fl) (fun xs H Q => (rSortC xs H Q ∨ rSortL X xs H Q) ∨ rSortK xs H Q) := by
  intro env μ σ H ρ G Q ds vs R r P
  unfold dSortA at P
  split at P
  · split at P
    · rename_i e0
      split at P
      · rename_i xs e1
        split at P
        · rename_i hz
          obtain ⟨v, r0, rfl, rv, hr⟩ := r
          cases hr
          obtain ⟨a, rfl, ⟨_, ks, e2, hh, rk⟩ | ⟨_, ks, e2, hh, rk⟩⟩ := dof_ok R rv e0
          · cases e2
            refine .inr ⟨a, ks, xs.map S, rfl, hh, keysS_ok rk e1, ?_⟩
            rw [srtS_S]
            exact new_L R (reps_strs fun x hx => List.all_eq_true.mp hz x ((List.mergeSort_perm xs _).mem_iff.mp hx)) P
          · cases e2
        · exact P.elim
      · exact P.elim
    · exact .inl (opn_sortL (fl := fl) env μ σ H ρ G Q _ vs R r P)
  · exact P.elim
theorem cr_sortA (hc : X.calm = true) (hu : X.A.units + 64 < cLine) : CallR X (.builtin "sorted") (fun xs H Q => (rSortC xs H Q ∨ rSortL X xs H Q) ∨ rSortK xs H Q) := (cr_sortL hc hu).or (cr_sortedK hc hu)
noncomputable def dListA (fl : Bool) : FN := fun ds μ => match ds with
  | [.str z] => if z.length ≤ lineN then .ok (mkL fl (chL z) μ) else .no
  | [d] => match dof d μ with
    | some (.dic kvs) => match keysS kvs with
      | some xs => if (xs.all okS) = true then .ok (mkL fl (xs.map D.str) μ) else .no
      | none => .no
    | _ => dList fl [d] μ
  | _ => .no
noncomputable def rListC : List V → Hp → VK → Prop := fun xs H Q => ∃ x : Str, xs = [.str x] ∧ x.cps.size ≤ 16777216 ∧ ∀ p, H p = none → Q (.ref p) (upd H p (.lst (x.cps.toList.map fun c => V.str ⟨#[c]⟩)))
noncomputable def rListD : List V → Hp → VK → Prop := fun xs H Q => ∃ (a : Addr) (kvs : List (Key × V)), xs = [.ref a] ∧ Rd H a (.dK kvs) ∧ ∀ p, H p = none → Q (.ref p) (upd H p (.lst (kvs.map fun kv => kV kv.1)))
noncomputable def rListL (X : Cx) : List V → Hp → VK → Prop := fun xs H Q => ∃ p ys, xs = [.ref p] ∧ (SqL X.K H p ys ∨ SqT X.K H p ys) ∧ ∀ l, H l = none → Q (.ref l) (upd H l (.lst ys))
theorem opn_listA {fl : Bool} : OpN nm X W (dListA fl) (fun xs H Q => (rListL X xs H Q ∨ rListC xs H Q) ∨ rListD xs H Q) := by
  intro env μ σ H ρ G Q ds vs R r P
  unfold dListA at P
  split at P
  · obtain ⟨v, r0, rfl, rv, hr⟩ := r
    cases hr
    obtain ⟨rfl, o⟩ := rv
    rename_i z
    split at P
    · rename_i hz
      have ecps : (S z).cps.size = z.length := by simp [S]
      refine .inl (.inr ⟨S z, rfl, by rw [ecps]; exact hz, ?_⟩)
      rw [S_cps]
      exact new_L R (reps_chL fun c hc => okS_mem o hc) P
    · exact P.elim
  · split at P
    · rename_i e0
      split at P
      · rename_i xs e1
        split at P
        · rename_i hz
          obtain ⟨v, r0, rfl, rv, hr⟩ := r
          cases hr
          obtain ⟨a, rfl, ⟨_, ks, e2, hh, rk⟩ | ⟨_, ks, e2, hh, rk⟩⟩ := dof_ok R rv e0
          · cases e2
            refine .inr ⟨a, ks, rfl, hh, ?_⟩
            rw [keysS_ok rk e1]
            exact new_L R (reps_strs fun x hx => List.all_eq_true.mp hz x hx) P
          · cases e2
        · exact P.elim
      · exact P.elim
    · exact .inl (.inl (opn_list (fl := fl) env μ σ H ρ G Q _ vs R r P))
  · exact P.elim
theorem call_listA (hc : X.calm = true) : CallR X (.type "list") (fun xs H Q => (rListL X xs H Q ∨ rListC xs H Q) ∨ rListD xs H Q) := ((call_list_of).or (call_listC hc)).or (call_listD hc)
end
end Lr
namespace Lr
open PySem L2
theorem okSort_strs {ws : List (List Nat)} (h : ws.length ≤ lineN) : okSort (ws.map D.str) = true := by
  unfold okSort
  simp only [Bool.and_eq_true, Bool.or_eq_true, List.all_eq_true, decide_eq_true_eq]
  refine ⟨⟨⟨fun a ha b hb => ?_, .inr fun a ha => ?_⟩, pds_strs⟩, by rw [List.length_map]; exact h⟩
  · obtain ⟨x, _, rfl⟩ := List.mem_map.mp ha
    obtain ⟨y, _, rfl⟩ := List.mem_map.mp hb
    simp [toP, PySem.W.alike]
  · obtain ⟨x, _, rfl⟩ := List.mem_map.mp ha
    rfl
theorem d_listAS {fl : Bool} {z : List Nat} {μ : Mu} (h : z.length ≤ lineN) : dListA fl [.str z] μ = .ok (mkL fl (chL z) μ) := if_pos h
end Lr
namespace Lr
open PySem L2
section
variable {nm : Nm} {X : Cx} {W : XW}
noncomputable def mCount : FM := fun d ds μ => match d, ds with
  | .str x, [.str y] => .ok (.int (Txt.count (S x) (S y)), μ)
  | _, _ => .no
theorem opm_count : OpM nm X W mCount (fun x xs H Q => ∃ a b, x = .str a ∧ xs = [.str b] ∧ Q (.int (Txt.count a b)) H) := by
  intro env μ σ H ρ G Q d ds v vs R rv r P
  unfold mCount at P
  split at P
  · obtain ⟨rfl, _⟩ := rv
    obtain ⟨w, r0, rfl, rw', hr⟩ := r
    cases hr
    obtain ⟨rfl, _⟩ := rw'
    exact ⟨_, _, rfl, rfl, P _ H ρ G .refl R rfl⟩
  · exact P.elim
end
end Lr
namespace Lr
open PySem L2 PySem.Spec
open PyProof.Rows hiding St
section
variable {nm : Nm} {X : Cx} {W : XW} {a : Expr} {pos p2 : Pos} {ma : M} {lo hi : Option Expr} {ml mh : MO}
end
end Lr
namespace Lr
open PySem L2 PySem.Spec
open PyProof.Rows hiding St
section
variable {nm : Nm} {X : Cx} {W : XW}
end
noncomputable def eqs (x : Str) (v : Value) : Bool := match v with
  | .str z _ => z.cps.toList == x.cps.toList
  | _ => false
noncomputable def textsOf : List D → Option (List (List Nat))
  | [] => some []
  | .str x :: r => (textsOf r).map (x :: ·)
  | _ => none
theorem textsOf_strs (ws : List (List Nat)) : textsOf (ws.map D.str) = some ws := by
  induction ws with
  | nil => rfl
  | cons w r ih => show (textsOf (r.map D.str)).map (w :: ·) = _; rw [ih]; rfl
theorem textsOf_eq : ∀ {ds : List D} {ws : List (List Nat)}, textsOf ds = some ws → ds = ws.map D.str
  | [], _, h => by cases h; rfl
  | d :: r, ws, h => by
    cases d <;> simp [textsOf] at h
    obtain ⟨l, h1, rfl⟩ := h
    rw [textsOf_eq h1]; rfl
theorem eqs_gives {x : Str} {t : Tok} : ∀ {us : List Value} {ws : List (List Nat)}, Vals ((ws.map S).map V.str) us → ∀ y ∈ us, MeetsSeq.EqGives y (.str x t) (eqs x y)
  | _, [], h => fun y hy => by cases h; cases hy
  | _, w :: ws, h => fun y hy => by
    cases h with
    | cons h1 h2 =>
      rcases List.mem_cons.mp hy with e | e
      · rw [e]
        obtain ⟨t', rfl⟩ := h1
        exact SeqRoads2.EqGives.str (S w) x t' t
      · exact eqs_gives h2 y e
theorem reps_texts {t : Ct} {G : Hp} {ρ : List Addr} : ∀ {ws : List (List Nat)} {vs : List V}, reps t G ρ (ws.map D.str) vs → vs = (ws.map S).map V.str
  | [], _, h => by cases h; rfl
  | w :: ws, _, ⟨v, r, e, h1, h2⟩ => by
    subst e
    obtain ⟨rfl, _⟩ := h1
    rw [reps_texts h2]; rfl
theorem vals_at : ∀ {us : List Value} {ws : List (List Nat)} {j : Nat} {w : List Nat}, Vals ((ws.map S).map V.str) us → ws[j]? = some w → ∃ t, us[j]? = some (.str (S w) t)
  | _, [], j, w, h, e => by simp at e
  | _, z :: ws, j, w, h, e => by
    cases h with
    | cons h1 h2 =>
      cases j with
      | zero => cases e; obtain ⟨t', rfl⟩ := h1; exact ⟨t', rfl⟩
      | succ j =>
        obtain ⟨t, q⟩ := vals_at (j := j) (ws := ws) h2 (by simpa using e)
        exact ⟨t, by simpa using q⟩
theorem eraseIdx_map {α β : Type} (f : α → β) : ∀ (l : List α) (j : Nat), (l.map f).eraseIdx j = (l.eraseIdx j).map f
  | [], j => by simp
  | a :: r, 0 => by simp
  | a :: r, j + 1 => by
    have ih := eraseIdx_map f r j
    simp [ih]
section
variable {nm : Nm} {X : Cx} {W : XW}
noncomputable def rRemS : V → List V → Hp → VK → Prop := fun x xs H Q => ∃ (l : Addr) (ws : List (List Nat)) (k : List Nat) (j : Nat), x = .ref l ∧ xs = [.str (S k)] ∧ H l = some (.lst ((ws.map S).map V.str)) ∧ ws[j]? = some k ∧ (∀ m : Nat, m < j → ws[m]? ≠ some k) ∧ Q .non (upd H l (.lst (((ws.eraseIdx j).map S).map V.str)))
theorem mt_removeS : MtM X "list.remove" rRemS := by
  intro pins s σ H x xs v us Q I rx rxs h
  obtain ⟨l, ws, k, j, rfl, rfl, hH, hj, hno, q⟩ := h
  cases rx
  obtain ⟨u, rfl, ru⟩ := rxs.one
  obtain ⟨t, rfl⟩ := ru
  obtain ⟨z, its, n, r, hl, e⟩ := I.lstM hH
  rw [List.length_map, List.length_map] at hl z
  have hjn : j < ws.length := (List.getElem?_eq_some_iff.mp hj).1
  have hjl : j < its.toArray.size := by rw [List.size_toArray]; omega
  refine call_meets PySem.F.slot_list_remove ⟨_, e, rfl⟩ PySem.F.entry_list_remove (PySem.F.args_list_remove_2 _ _)
    (MeetsSeq.list_remove l its.toArray n (.str (S k) t) (eqs (S k)) (fun y hy => eqs_gives r y (by simpa using hy)) j hjl ?_ ?_ (by rw [List.size_toArray]; omega)) ⟨e, ?_⟩
  · obtain ⟨tj, hjt⟩ := vals_at r hj
    obtain ⟨h1, h2⟩ := List.getElem?_eq_some_iff.mp hjt
    have e1 : its.toArray[j] = .str (S k) tj := by simpa using h2
    rw [e1]
    exact beq_self_eq_true _
  · intro m hm hmj
    have hmn : m < ws.length := by omega
    obtain ⟨tm, hmt⟩ := vals_at r (List.getElem?_eq_getElem hmn)
    obtain ⟨h1, h2⟩ := List.getElem?_eq_some_iff.mp hmt
    have e1 : its.toArray[m] = .str (S ws[m]) tm := by simpa using h2
    rw [e1]
    refine beq_eq_false_iff_ne.mpr fun e2 => hno m hmj ?_
    rw [List.getElem?_eq_getElem hmn]
    rw [S_cps, S_cps] at e2
    rw [e2]
  · have rr := r.eraseIdx j
    rw [eraseIdx_map, eraseIdx_map] at rr
    refine ⟨.non, _, I.lset (its' := its.eraseIdx j) (t' := s.toks) hH e ?_ rr ?_, rfl, q⟩
    · show its.toArray.eraseIdxIfInBounds j = (its.eraseIdx j).toArray
      rw [List.eraseIdxIfInBounds_toArray]
    · rw [List.length_map, List.length_map]
      have := List.length_eraseIdx_le ws j
      omega
noncomputable def mRemove : FM := fun d ds μ => match d, ds with
  | .ref n, [.str k] => match μ[n]? with
    | some (.lst xs) => match textsOf xs with
      | some ws => if k ∈ ws then .ok (.non, μ.set n (.lst ((ws.erase k).map D.str))) else .no
      | none => .no
    | _ => .no
  | _, _ => .no
theorem reps_of_texts {t : Ct} {G : Hp} {ρ : List Addr} {ws : List (List Nat)} {vs : List V} (h : reps t G ρ (ws.map D.str) vs) (j : Nat) : reps t G ρ ((ws.eraseIdx j).map D.str) (((ws.eraseIdx j).map S).map V.str) := by
  have e := reps_texts h
  induction ws generalizing vs j with
  | nil => simp; rfl
  | cons w r ih =>
    obtain ⟨v, r', e1, h1, h2⟩ := h
    subst e1
    obtain ⟨rfl, o⟩ := h1
    have e2 := reps_texts h2
    subst e2
    cases j with
    | zero => exact h2
    | succ j => exact ⟨_, _, rfl, ⟨rfl, o⟩, ih h2 j rfl⟩
theorem erase_idx {ws : List (List Nat)} {k : List Nat} (h : k ∈ ws) : ∃ j, ws[j]? = some k ∧ (∀ m : Nat, m < j → ws[m]? ≠ some k) ∧ ws.erase k = ws.eraseIdx j := by
  induction ws with
  | nil => cases h
  | cons w r ih =>
    by_cases c : w = k
    · exact ⟨0, by rw [c]; rfl, fun m hm => by omega, by rw [c]; simp⟩
    · have hk : k ∈ r := by
        rcases List.mem_cons.mp h with e | e
        · exact absurd e.symm c
        · exact e
      obtain ⟨j, j1, j2, j3⟩ := ih hk
      refine ⟨j + 1, j1, fun m hm => ?_, ?_⟩
      · cases m with
        | zero => intro e; exact c (Option.some.inj e)
        | succ m => exact j2 m (by omega)
      · rw [List.erase_cons_tail (by simpa using c), j3]; rfl
theorem opm_remove : OpM nm X W mRemove rRemS := by
  intro env μ σ H ρ G Q d ds v vs R rv r P
  unfold mRemove at P
  split at P
  · rename_i n k
    obtain ⟨a, ea, rfl⟩ := rv
    obtain ⟨w, r0, rfl, rk, hr⟩ := r
    cases hr
    obtain ⟨rfl, _⟩ := rk
    split at P
    · rename_i xs q
      obtain ⟨us, h, rs⟩ := R.cells n a _ ea q
      split at P
      · rename_i ws hw
        cases textsOf_eq hw
        split at P
        · rename_i hk
          obtain ⟨j, j1, j2, j3⟩ := erase_idx hk
          rw [j3] at P
          have e := reps_texts rs
          obtain ⟨R2, e2⟩ := R.setCell (o := .lst (((ws.eraseIdx j).map S).map V.str)) (d := .lst ((ws.eraseIdx j).map D.str)) ea ⟨_, upd_same, reps_of_texts rs j⟩
          exact ⟨a, ws, k, j, rfl, rfl, by rw [h, e], j1, j2, P .non _ ρ G e2 R2 rfl⟩
        · exact P.elim
      · exact P.elim
    · exact P.elim
  · exact P.elim
end
section
variable {P : Program} {w : World} {K : PySem.W.Frag} {mg : Str → Option Value} {base : Heap} {nm : Nm} {x : Str} {st : Stmt} {N ps : List Str} {k : Nat}
end
section
variable {nm : Nm} {X : Cx} {W : XW} {pos p1 p2 : Pos}
end
end Lr
namespace Lr
open PySem L2
theorem m_remS {ws : List (List Nat)} {x : List Nat} {n : Nat} {μ : Mu} (hn : μ[n]? = some (.lst (ws.map D.str))) (h : x ∈ ws) : mRemove (.ref n) [.str x] μ = .ok (.non, μ.set n (.lst ((ws.erase x).map D.str))) := by
  unfold mRemove
  simp only [hn, textsOf_strs]
  rw [if_pos h]
theorem d_sortAR {fl : Bool} {ws : List (List Nat)} {n : Nat} {μ : Mu} (hn : μ[n]? = some (.lst (ws.map D.str))) (h : ws.length ≤ lineN) : dSortA fl [.ref n] μ = .ok (mkL fl ((srtS ws).map D.str) μ) := by
  have e : dof (.ref n) μ = none := by unfold dof; dsimp only; rw [hn]
  unfold dSortA
  simp only [e]
  unfold dSortL
  have e2 : lof (.ref n) μ = some (ws.map D.str) := by unfold lof; dsimp only; rw [hn]
  simp only [e2]
  rw [if_pos (okSort_strs h), srtS_D]
theorem encC_le (a b : Nat) : PySem.W.dataLe false encC a b = decide (a ≤ b) := by
  have h1 : PySem.W.dataLe false encC a b = PySem.W.dataLe false encS (S [a]) (S [b]) := rfl
  have e : PySem.W.dataLe false encS = fun a b : Str => decide (a.cps.toList ≤ b.cps.toList) := PySem.W.dataLe_str fun z : Str => z
  rw [h1, e]
  show decide ((S [a]).cps.toList ≤ (S [b]).cps.toList) = _
  rw [S_cps, S_cps]
  apply decide_eq_decide.mpr
  rw [List.cons_le_cons_iff]
  simp
  omega
theorem srtC_ord (z : List Nat) : (srtC z).Pairwise (· ≤ ·) := by
  have e : PySem.W.dataLe false encC = fun a b => decide (a ≤ b) := by funext a b; exact encC_le a b
  unfold srtC
  rw [e]
  refine (List.pairwise_mergeSort (fun a b c => by simp; omega) (fun a b => by simp; omega) z).imp ?_
  intro a b h
  simpa using h
theorem srtC_perm (z : List Nat) : (srtC z).Perm z := List.mergeSort_perm z _
theorem ord_perm_eq : ∀ {A B : List Nat}, A.Pairwise (· ≤ ·) → B.Pairwise (· ≤ ·) → A.Perm B → A = B := fun hA hB p => p.eq_of_pairwise (le := (· ≤ ·)) (fun a b _ _ h1 h2 => Nat.le_antisymm h1 h2) hA hB
theorem srtC_perm_eq {y z : List Nat} (h : y.Perm z) : srtC y = srtC z := ord_perm_eq (srtC_ord y) (srtC_ord z) ((srtC_perm y).trans (h.trans (srtC_perm z).symm))
end Lr
namespace Lr
open PySem L2
noncomputable def KvI (kvs : List (D × D)) : Prop := ∀ p ∈ kvs, ∃ (c : Nat) (v : Int), p = (.str [c], .int v)
theorem KvI.nil : KvI [] := fun p h => absurd h List.not_mem_nil
theorem KvI.put {kvs : List (D × D)} (h : KvI kvs) (c : Nat) (v : Int) : KvI (putD kvs (.str [c]) (.int v)) := by
  unfold putD
  split
  · intro p hp
    obtain ⟨q, hq, rfl⟩ := List.mem_map.mp hp
    obtain ⟨c', v', rfl⟩ := h q hq
    by_cases z : kEq (.str [c']) (.str [c]) = true
    · rw [if_pos z]; exact ⟨_, _, rfl⟩
    · rw [if_neg z]; exact ⟨_, _, rfl⟩
  · intro p hp
    rcases List.mem_append.mp hp with z | z
    · exact h p z
    · exact ⟨c, v, List.mem_singleton.mp z⟩
end Lr
namespace PySem.SeqAt
open AutoSeq1 (wpAny_loadPart')
open MeetsSeq MeetsSeq2 MeetsSeq3 SeqRoads2
section
variable {prog : Program} {w : World}
end
end PySem.SeqAt
namespace Lr
open PySem L2 PySem.Spec
open PyProof.Rows hiding St
section
variable {nm : Nm} {X : Cx} {W : XW}
noncomputable def OkKv (kvs : List (D × D)) : Prop := ∀ p ∈ kvs, look kvs p.1 = some p.2 ∧ ∃ i, p.2 = .int i
end
theorem kEq_str {a b : List Nat} : kEq (.str a) (.str b) = decide (a = b) := rfl
noncomputable def KvU (kvs : List (D × D)) : Prop := KvI kvs ∧ (kvs.map (·.1)).Nodup
theorem KvU.nil : KvU [] := ⟨KvI.nil, List.nodup_nil⟩
theorem KvU.put {kvs : List (D × D)} (h : KvU kvs) (c : Nat) (v : Int) : KvU (putD kvs (.str [c]) (.int v)) := by
  refine ⟨h.1.put c v, ?_⟩
  unfold putD
  split
  · rw [List.map_map]
    have e : ((fun p : D × D => p.1) ∘ fun p : D × D => if kEq p.1 (.str [c]) = true then (p.1, D.int v) else p) = (·.1) := by
      funext p
      show (if kEq p.1 (.str [c]) = true then (p.1, D.int v) else p).1 = p.1
      split <;> rfl
    rw [e]; exact h.2
  · rename_i hn
    rw [List.map_append, List.nodup_append]
    refine ⟨h.2, by simp, fun x hx y hy z => ?_⟩
    obtain ⟨p, hp, rfl⟩ := List.mem_map.mp hx
    have hy : y = .str [c] := by simpa using hy
    apply hn
    rw [List.any_eq_true]
    exact ⟨p, hp, by rw [z, hy, kEq_str]; simp⟩
theorem KvU.ok {kvs : List (D × D)} (h : KvU kvs) : OkKv kvs := by
  obtain ⟨h1, h2⟩ := h
  intro p hp
  obtain ⟨c, v, rfl⟩ := h1 p hp
  refine ⟨?_, v, rfl⟩
  show look kvs (.str [c]) = some (.int v)
  induction kvs with
  | nil => cases hp
  | cons q r ih =>
    rw [List.map_cons, List.nodup_cons] at h2
    obtain ⟨c', v', rfl⟩ := h1 q (by simp)
    by_cases e : c' = c
    · subst e
      rcases List.mem_cons.mp hp with z | z
      · cases z
        unfold look
        rw [List.find?_cons_of_pos (by rw [kEq_str]; simp)]; rfl
      · exact absurd (List.mem_map.mpr ⟨_, z, rfl⟩) h2.1
    · have hr : (D.str [c], D.int v) ∈ r := by
        rcases List.mem_cons.mp hp with z | z
        · cases z; exact absurd rfl e
        · exact z
      have := ih (fun p hp => h1 p (by simp [hp])) h2.2 hr
      unfold look at this ⊢
      rw [List.find?_cons_of_neg (by rw [kEq_str]; simpa using e)]
      exact this
end Lr
namespace Lr
open PySem L2
end Lr
namespace Lr
open PySem L2 PySem.Spec
open PyProof.Rows hiding St
section
variable {nm : Nm} {X : Cx} {W : XW}
end
section
variable {α : Type} (f : α → D) (lt : α → α → Prop)
structure Ord (f : α → D) (lt : α → α → Prop) : Prop where
  is : ∀ a b, PySem.W.dataLt (toP (f a)) (toP (f b)) = true ↔ lt a b
  tr : ∀ a b c, lt a b → lt b c → lt a c
  irr : ∀ a, ¬ lt a a
  tri : ∀ a b, ¬ lt a b → a ≠ b → lt b a
variable {f lt}
noncomputable def leF (f : α → D) (a b : α) : Bool := PySem.W.dataLe false toP (f a) (f b)
theorem Ord.le (O : Ord f lt) (a b : α) : leF f a b = true ↔ ¬ lt b a := by
  have e : leF f a b = !PySem.W.dataLt (toP (f b)) (toP (f a)) := rfl
  rw [e, ← O.is b a]
  simp
theorem Ord.sorted (O : Ord f lt) {L : List α} (hL : L.Nodup) : (L.mergeSort (leF f)).Pairwise lt := by
  have p1 : (L.mergeSort (leF f)).Pairwise fun a b => leF f a b = true := List.pairwise_mergeSort (fun a b c x y => by
    rw [O.le] at x y ⊢
    intro z
    by_cases e : b = c
    · exact x (e ▸ z)
    · exact x (O.tr _ _ _ (Classical.byContradiction fun w => y (O.tri _ _ w e)) z)) (fun a b => by
    rw [Bool.or_eq_true, O.le, O.le]
    by_cases z : lt b a
    · exact .inr fun w => O.irr _ (O.tr _ _ _ w z)
    · exact .inl z) L
  have p2 : (L.mergeSort (leF f)).Nodup := (List.mergeSort_perm L _).nodup_iff.mpr hL
  refine (p1.and p2).imp fun {a b} ⟨x, y⟩ => ?_
  rw [O.le] at x
  exact O.tri _ _ x (Ne.symm y)
end
noncomputable def lt2 (p q : Nat × Nat) : Prop := p.1 < q.1 ∨ (p.1 = q.1 ∧ p.2 < q.2)
noncomputable def lt3 (p q : Nat × Nat × Nat) : Prop := p.1 < q.1 ∨ (p.1 = q.1 ∧ (p.2.1 < q.2.1 ∨ (p.2.1 = q.2.1 ∧ p.2.2 < q.2.2)))
noncomputable instance (p q : Nat × Nat × Nat) : Decidable (lt3 p q) := by unfold lt3; infer_instance
noncomputable instance (p q : Nat × Nat) : Decidable (lt2 p q) := by unfold lt2; infer_instance
end Lr
namespace Lr
open PySem L2
structure IsT (K : PySem.W.Frag) (C : Addr) : Prop where
  ha : PySem.W.findIn K (.ref C) "__class__" = some (some (.builtin "object.__class__"))
  hn : PySem.W.specialIn K (.builtin "object.__class__") "__get__" = some (some (.builtin "getset_descriptor.__get__"))
  ht : PySem.W.takesIn K (.builtin "object.__class__") = some true
  hm : PySem.W.mroIn K C (.type "object") = some true
section
variable {nm : Nm} {X : Cx} {W : XW} {e : Expr} {pos p p2 : Pos} {ma : M} {c : Nat} {C : Addr} {y : Str}
end
end Lr
namespace Lr
open PySem L2
inductive R (α : Type) where
  | ok (a : α) | ex (c : Nat) (ds : List D) | no
noncomputable def R.bind {α β : Type} (r : R α) (f : α → R β) : R β := match r with
  | .ok a => f a
  | .ex c ds => .ex c ds
  | .no => .no
noncomputable def R.ne {α : Type} (r : R α) : R α := match r with
  | .ok a => .ok a
  | _ => .no
theorem R.bind_ok {α β : Type} {a : α} {f : α → R β} : R.bind (.ok a) f = f a := id rfl
theorem R.ne_ok {α : Type} {a : α} : R.ne (.ok a) = .ok a := id rfl
@[irreducible] noncomputable def R.gd {α : Type} (p : Prop) [Decidable p] (r : R α) : R α := if p then r else .no
theorem R.gd_t {α : Type} {p : Prop} [Decidable p] {r : R α} (h : p) : R.gd p r = r := by unfold R.gd; exact if_pos h
inductive Sl (S : Type) where
  | un | val (f : S → D) | cel (o : Option Nat) (f : S → D)
noncomputable def Sl.lift {S T : Type} (p : T → S) : Sl S → Sl T
  | .un => .un
  | .val f => .val fun t => f (p t)
  | .cel o f => .cel o fun t => f (p t)
noncomputable def Sl.isC {S : Type} : Sl S → Bool
  | .cel _ _ => true
  | _ => false
noncomputable abbrev Sls (S : Type) := List (Sl S)
noncomputable def nth {S : Type} : Sls S → Nat → Sl S
  | [], _ => .un
  | x :: _, 0 => x
  | _ :: r, n + 1 => nth r n
noncomputable def put {S : Type} : Sls S → Nat → Sl S → Sls S
  | [], _, _ => []
  | _ :: r, 0, y => y :: r
  | x :: r, n + 1, y => x :: put r n y
noncomputable def lifts {S T : Type} (p : T → S) : Sls S → Sls T
  | [] => []
  | x :: r => x.lift p :: lifts p r
noncomputable def SlOk {S : Type} (μ : Mu) (s : S) (o : Option (Option D)) : Sl S → Prop
  | .un => True
  | .val f => o = some (some (f s))
  | .cel (some n) f => o = some (some (.ref n)) ∧ μ[n]? = some (f s)
  | .cel none f => ∃ n, o = some (some (.ref n)) ∧ μ[n]? = some (f s)
section
variable {S T : Type}
theorem nth_put {γ : Sls S} {i : Nat} {y : Sl S} : ∀ {j : Nat}, nth (put γ i y) j = if j = i ∧ i < γ.length then y else nth γ j := by
  induction γ generalizing i with
  | nil => intro j; simp [put, nth]
  | cons x r ih =>
    intro j
    cases i with
    | zero => cases j <;> simp [put, nth]
    | succ i =>
      cases j with
      | zero => simp [put, nth]
      | succ j => simp only [put, nth, ih, List.length_cons, Nat.add_lt_add_iff_right, Nat.add_right_cancel_iff]
theorem put_len {γ : Sls S} {i : Nat} {y : Sl S} : (put γ i y).length = γ.length := by
  induction γ generalizing i with
  | nil => rfl
  | cons x r ih => cases i <;> simp [put, ih]
theorem nth_lifts {p : T → S} {γ : Sls S} : ∀ {j : Nat}, nth (lifts p γ) j = (nth γ j).lift p := by
  induction γ with
  | nil => intro j; rfl
  | cons x r ih => intro j; cases j <;> simp [lifts, nth, ih]
theorem lifts_len {p : T → S} {γ : Sls S} : (lifts p γ).length = γ.length := by
  induction γ with
  | nil => rfl
  | cons x r ih => simp [lifts, ih]
theorem nth_out {γ : Sls S} {j : Nat} (h : γ.length ≤ j) : nth γ j = .un := by
  induction γ generalizing j with
  | nil => rfl
  | cons x r ih => cases j with
    | zero => simp at h
    | succ j => exact ih (by simpa using h)
theorem SlOk.lift {μ : Mu} {p : T → S} {t : T} {o : Option (Option D)} {x : Sl S} : SlOk μ t o (x.lift p) ↔ SlOk μ (p t) o x := by
  cases x with
  | un => exact Iff.rfl
  | val f => exact Iff.rfl
  | cel q f => cases q <;> exact Iff.rfl
end
structure Enc {S : Type} (γ : Sls S) (s : S) (e : Ev) (μ : Mu) : Prop where
  len : e.length = γ.length
  ok : ∀ i, SlOk μ s e[i]? (nth γ i)
  dj : ∀ i j n, (nth γ i).isC = true → (nth γ j).isC = true → e[i]? = some (some (.ref n)) → e[j]? = some (some (.ref n)) → i = j
section
variable {S T : Type} {γ : Sls S} {s : S} {e : Ev} {μ : Mu}
theorem Enc.lift {p : T → S} {t : T} (h : Enc γ (p t) e μ) : Enc (lifts p γ) t e μ where
  len := by rw [lifts_len]; exact h.len
  ok := fun i => by rw [nth_lifts]; exact SlOk.lift.mpr (h.ok i)
  dj := fun i j n a b => by
    rw [nth_lifts] at a b
    refine h.dj i j n ?_ ?_
    · revert a; cases nth γ i <;> exact id
    · revert b; cases nth γ j <;> exact id
theorem Enc.setX (h : Enc γ s e μ) (i : Nat) (y : Sl S) (o : Option D) (hy : i < γ.length → SlOk μ s (some o) y) (hc : y.isC = true → ∀ j n, (nth γ j).isC = true → e[j]? = some (some (.ref n)) → o = some (.ref n) → j = i) : Enc (put γ i y) s (e.set i o) μ where
  len := by rw [put_len, List.length_set]; exact h.len
  ok := fun j => by
    rw [nth_put]
    split
    · rename_i hj
      rw [hj.1, List.getElem?_set_self (by rw [h.len]; exact hj.2)]
      exact hy hj.2
    · rename_i hj
      by_cases hji : j = i
      · have : γ.length ≤ i := by
          rcases Nat.lt_or_ge i γ.length with z | z
          · exact absurd ⟨hji, z⟩ hj
          · exact z
        rw [hji, nth_out this]; trivial
      · rw [List.getElem?_set_ne (Ne.symm hji)]; exact h.ok j
  dj := fun a b n ca cb ea eb => by
    rw [nth_put] at ca cb
    by_cases ha : a = i ∧ i < γ.length
    · rw [if_pos ha] at ca
      rw [ha.1, List.getElem?_set_self (by rw [h.len]; exact ha.2)] at ea
      cases ea
      by_cases hb : b = i ∧ i < γ.length
      · rw [ha.1, hb.1]
      · rw [if_neg hb] at cb
        by_cases hbi : b = i
        · rw [ha.1, hbi]
        · rw [List.getElem?_set_ne (Ne.symm hbi)] at eb
          exact absurd (hc ca b n cb eb rfl) hbi
    · rw [if_neg ha] at ca
      by_cases hai : a = i
      · have : γ.length ≤ i := by
          rcases Nat.lt_or_ge i γ.length with z | z
          · exact absurd ⟨hai, z⟩ ha
          · exact z
        rw [hai, nth_out this] at ca; cases ca
      · rw [List.getElem?_set_ne (Ne.symm hai)] at ea
        by_cases hb : b = i ∧ i < γ.length
        · rw [if_pos hb] at cb
          rw [hb.1, List.getElem?_set_self (by rw [h.len]; exact hb.2)] at eb
          cases eb
          exact absurd (hc cb a n ca ea rfl) hai
        · rw [if_neg hb] at cb
          by_cases hbi : b = i
          · have : γ.length ≤ i := by
              rcases Nat.lt_or_ge i γ.length with z | z
              · exact absurd ⟨hbi, z⟩ hb
              · exact z
            rw [hbi, nth_out this] at cb; cases cb
          · rw [List.getElem?_set_ne (Ne.symm hbi)] at eb
            exact h.dj a b n ca cb ea eb
theorem Enc.setV (h : Enc γ s e μ) (i : Nat) (f : S → D) : Enc (put γ i (.val f)) s (e.set i (some (f s))) μ := h.setX i _ _ (fun _ => rfl) fun z => by cases z
theorem Enc.celLt (h : Enc γ s e μ) {j n : Nat} (hc : (nth γ j).isC = true) (he : e[j]? = some (some (.ref n))) : n < μ.length := by
  have := h.ok j
  cases q : nth γ j with
  | un => rw [q] at hc; cases hc
  | val f => rw [q] at hc; cases hc
  | cel o f =>
    rw [q] at this
    cases o with
    | none =>
      obtain ⟨m, a, b⟩ := this
      rw [he] at a; cases a
      exact (List.getElem?_eq_some_iff.mp b).1
    | some m =>
      obtain ⟨a, b⟩ := this
      rw [he] at a; cases a
      exact (List.getElem?_eq_some_iff.mp b).1
theorem Enc.grow (h : Enc γ s e μ) (d : D) : Enc γ s e (μ ++ [d]) := by
  refine ⟨h.len, fun i => ?_, h.dj⟩
  have := h.ok i
  revert this
  cases nth γ i with
  | un => exact fun _ => trivial
  | val f => exact fun z => z
  | cel o f =>
    cases o with
    | none => exact fun ⟨n, a, b⟩ => ⟨n, a, by rw [List.getElem?_append_left (List.getElem?_eq_some_iff.mp b).1]; exact b⟩
    | some n => exact fun ⟨a, b⟩ => ⟨a, by rw [List.getElem?_append_left (List.getElem?_eq_some_iff.mp b).1]; exact b⟩
theorem Enc.setC (h : Enc γ s e μ) (i : Nat) (f : S → D) : Enc (put γ i (.cel (some μ.length) f)) s (e.set i (some (.ref μ.length))) (μ ++ [f s]) :=
  (h.grow (f s)).setX i _ _ (fun _ => ⟨rfl, by simp⟩) fun _ j n hc he z => by
    cases z
    exact absurd (h.celLt hc he) (Nat.lt_irrefl _)
theorem Enc.mut (h : Enc γ s e μ) {i n : Nat} {f f' : S → D} {o : Option Nat} (hi : nth γ i = .cel o f) (he : e[i]? = some (some (.ref n))) : Enc (put γ i (.cel o f')) s e (μ.set n (f' s)) := by
  have hl : i < γ.length := by
    rcases Nat.lt_or_ge i γ.length with z | z
    · exact z
    · rw [nth_out z] at hi; cases hi
  have hn : n < μ.length := h.celLt (by rw [hi]; rfl) he
  have hk := h.ok i
  rw [hi] at hk
  refine ⟨by rw [put_len]; exact h.len, fun j => ?_, fun a b m ca cb ea eb => ?_⟩
  · rw [nth_put]
    split
    · rename_i hj
      rw [hj.1]
      cases o with
      | none => exact ⟨n, he, List.getElem?_set_self hn⟩
      | some n' =>
        obtain ⟨a, b⟩ := hk
        rw [he] at a; cases a
        exact ⟨he, List.getElem?_set_self hn⟩
    · rename_i hj
      have hji : j ≠ i := fun z => hj ⟨z, hl⟩
      have := h.ok j
      have dj := h.dj j i
      revert this dj
      cases nth γ j with
      | un => exact fun _ _ => trivial
      | val g => exact fun z _ => z
      | cel p g =>
        cases p with
        | none => exact fun ⟨m, a, b⟩ dj => ⟨m, a, by
            rw [List.getElem?_set_ne]
            · exact b
            · rintro rfl; exact hji (dj _ rfl (by rw [hi]; rfl) a he)⟩
        | some m => exact fun ⟨a, b⟩ dj => ⟨a, by
            rw [List.getElem?_set_ne]
            · exact b
            · rintro rfl; exact hji (dj _ rfl (by rw [hi]; rfl) a he)⟩
  · have key : ∀ c, (nth (put γ i (.cel o f')) c).isC = true → (nth γ c).isC = true := fun c hc => by
      rw [nth_put] at hc
      split at hc
      · rename_i hh; rw [hh.1, hi]; rfl
      · exact hc
    exact h.dj a b m (key a ca) (key b cb) ea eb
theorem Enc.cel (h : Enc γ s e μ) {i : Nat} {o : Option Nat} {f : S → D} (hi : nth γ i = .cel o f) : ∃ n, e[i]? = some (some (.ref n)) ∧ μ[n]? = some (f s) := by
  have := h.ok i
  rw [hi] at this
  cases o with
  | none => exact this
  | some n => exact ⟨n, this⟩
theorem Enc.val (h : Enc γ s e μ) {i : Nat} {f : S → D} (hi : nth γ i = .val f) : e[i]? = some (some (f s)) := by
  have := h.ok i
  rw [hi] at this
  exact this
end
noncomputable def WkS {S T : Type} (p : S → T) : Sl S → Sl T → Prop
  | _, .un => True
  | .val f, .val g => ∀ s, f s = g (p s)
  | .cel (some n) f, .cel (some m) g => n = m ∧ ∀ s, f s = g (p s)
  | .cel _ f, .cel none g => ∀ s, f s = g (p s)
  | _, _ => False
noncomputable def Wk {S T : Type} (p : S → T) : Sls S → Sls T → Prop
  | [], [] => True
  | x :: r, y :: q => WkS p x y ∧ Wk p r q
  | _, _ => False
theorem Wk.len {S T : Type} {p : S → T} : ∀ {γ : Sls S} {δ : Sls T}, Wk p γ δ → δ.length = γ.length
  | [], [], _ => rfl
  | x :: r, y :: q, h => by simp [Wk.len h.2]
  | [], _ :: _, h => h.elim
  | _ :: _, [], h => h.elim
theorem Wk.at {S T : Type} {p : S → T} : ∀ {γ : Sls S} {δ : Sls T}, Wk p γ δ → ∀ i, WkS p (nth γ i) (nth δ i)
  | [], [], _, i => trivial
  | x :: r, y :: q, h, 0 => h.1
  | x :: r, y :: q, h, i + 1 => Wk.at h.2 i
  | [], _ :: _, h, _ => h.elim
  | _ :: _, [], h, _ => h.elim
theorem Enc.wk {S T : Type} {p : S → T} {γ : Sls S} {δ : Sls T} {s : S} {e : Ev} {μ : Mu} (w : Wk p γ δ) (h : Enc γ s e μ) : Enc δ (p s) e μ where
  len := by rw [w.len]; exact h.len
  ok := fun i => by
    have a := w.at i
    have b := h.ok i
    revert a b
    cases nth δ i with
    | un => exact fun _ _ => trivial
    | val g =>
      cases nth γ i with
      | un => exact fun a _ => a.elim
      | val f => exact fun a b => by show _ = _; rw [← a s]; exact b
      | cel o f => cases o <;> exact fun a _ => a.elim
    | cel o g =>
      cases nth γ i with
      | un => exact fun a _ => by cases o <;> exact a.elim
      | val f => exact fun a _ => by cases o <;> exact a.elim
      | cel o' f =>
        cases o' with
        | none =>
          cases o with
          | none => exact fun a ⟨n, x, y⟩ => ⟨n, x, by rw [y, a s]⟩
          | some m => exact fun a _ => a.elim
        | some n =>
          cases o with
          | none => exact fun a ⟨x, y⟩ => ⟨n, x, by rw [y, a s]⟩
          | some m => exact fun a ⟨x, y⟩ => by obtain ⟨rfl, a⟩ := a; exact ⟨x, by rw [y, a s]⟩
  dj := fun i j n ci cj => by
    have key : ∀ k, (nth δ k).isC = true → (nth γ k).isC = true := fun k hk => by
      have a := w.at k
      revert a hk
      cases nth δ k with
      | un => exact fun z _ => by cases z
      | val g => exact fun z _ => by cases z
      | cel o g =>
        cases nth γ k with
        | un => exact fun _ a => by cases o <;> exact a.elim
        | val f => exact fun _ a => by cases o <;> exact a.elim
        | cel o' f => exact fun _ _ => rfl
    exact h.dj i j n (key i ci) (key j cj)
noncomputable def Sim {α : Type} (x : Bool) (r : R α) (q : α → Prop) (w : Nat → List D → Prop) : Prop := match r with
  | .ok a => q a
  | .ex c ds => x = true → w c ds
  | .no => True
theorem Sim.bind {α β : Type} {x : Bool} {r : R α} {f : α → R β} {q : β → Prop} {w : Nat → List D → Prop} : Sim x (r.bind f) q w ↔ Sim x r (fun a => Sim x (f a) q w) w := by
  cases r <;> exact Iff.rfl
theorem Sim.imp {α : Type} {x : Bool} {r : R α} {q q' : α → Prop} {w w' : Nat → List D → Prop} (h : Sim x r q w) (a : ∀ a, q a → q' a) (b : ∀ c ds, w c ds → w' c ds) : Sim x r q' w' := by
  cases r with
  | ok v => exact a v h
  | ex c ds => exact fun z => b c ds (h z)
  | no => trivial
theorem Sim.gd {α : Type} {x : Bool} {p : Prop} [Decidable p] {r : R α} {q : α → Prop} {w : Nat → List D → Prop} (h : p → Sim x r q w) : Sim x (R.gd p r) q w := by
  unfold R.gd
  split
  · exact h ‹_›
  · trivial
noncomputable def isCl : D → Bool
  | .lst _ => true | .dic _ => true | .dit _ => true | .obj _ _ => true | .din _ => true | _ => false
noncomputable def Vw (μ : Mu) (d d' : D) : Prop := d = d' ∨ ∃ n, d = .ref n ∧ μ[n]? = some d' ∧ isCl d' = true
theorem Vw.eq {μ : Mu} {d d' : D} (h : Vw μ d d') (n : isCl d' = false) : d = d' := by
  rcases h with h | ⟨_, _, _, z⟩
  · exact h
  · rw [n] at z; cases z
inductive Dt where
  | o | s (d : Dt) | m (a b : Dt)
noncomputable def Dt.n : Dt → Nat
  | .o => 1
  | .s d => d.n + 1
  | .m a b => max a.n b.n
class Kn {α : Type} (k : α → D) (n : outParam Dt) : Prop where
  nr : ∀ a, nr (k a) = true
  il : ∀ a μ m, n.n ≤ m → inl true μ m (k a) = some (k a)
class Kv {α : Type} (k : α → D) : Prop where
  vw : ∀ a μ d, Vw μ d (k a) → vw μ d = some (k a)
class Kf {α : Type} (k : α → D) (n : outParam Dt) : Prop where
  il : ∀ a μ m, n.n ≤ m → inl false μ m (k a) = some (k a)
section
variable {S α β δ : Type} (x : Bool) (γ : Sls S)
noncomputable def TD (m : M) (k : α → D) (g : S → R α) : Prop := ∀ s e μ, Enc γ s e μ → Sim x (g s) (fun a => m e μ = .ok (k a, μ)) (fun c ds => m e μ = .ex c ds μ)
noncomputable def TE (m : M) (k : α → D) (g : S → R α) : Prop := ∀ s e μ, Enc γ s e μ → Sim x (g s) (fun a => ∃ d, m e μ = .ok (d, μ) ∧ Vw μ d (k a)) (fun c ds => m e μ = .ex c ds μ)
noncomputable def TC (m : M) (k : α → D) (g : S → R α) : Prop := ∀ s e μ, Enc γ s e μ → Sim x (g s) (fun a => m e μ = .ok (.ref μ.length, μ ++ [k a])) (fun c ds => m e μ = .ex c ds μ)
noncomputable def TT (m : MT) (g : S → R Bool) : Prop := ∀ s e μ, Enc γ s e μ → Sim x (g s) (fun a => m e μ = .ok (a, μ)) (fun c ds => m e μ = .ex c ds μ)
noncomputable def VwL (μ : Mu) : List D → List D → Prop
  | [], [] => True
  | d :: r, d' :: r' => Vw μ d d' ∧ VwL μ r r'
  | _, _ => False
noncomputable def TA {A : Type} (ms : MA) (ka : A → List D) (G : (β : Type) → S → (A → R β) → R β) : Prop := ∀ s e μ, Enc γ s e μ →
  (∃ a ds, ms e μ = .ok (ds, μ) ∧ VwL μ ds (ka a) ∧ vws μ ds = some (ka a) ∧ ∀ β (c : A → R β), G β s c = c a) ∨ (∃ y fs, (x = true → ms e μ = .ex y fs μ) ∧ ∀ β (c : A → R β), G β s c = .ex y fs) ∨ (∀ β (c : A → R β), G β s c = .no)
noncomputable def TAD {A : Type} (ms : MA) (ka : A → List D) (G : (β : Type) → S → (A → R β) → R β) : Prop := ∀ s e μ, Enc γ s e μ →
  (∃ a, ms e μ = .ok (ka a, μ) ∧ nrs (ka a) = true ∧ ∀ β (c : A → R β), G β s c = c a) ∨ (∃ y fs, (x = true → ms e μ = .ex y fs μ) ∧ ∀ β (c : A → R β), G β s c = .ex y fs) ∨ (∀ β (c : A → R β), G β s c = .no)
end
section
variable {S α β δ A : Type} {x : Bool} {γ : Sls S} {ma mb mc : M} {ka : α → D} {kb : β → D} {kc : δ → D} {ga : S → R α} {gb : S → R β} {gc : S → R δ} {ta tb : MT} {ba bb : S → R Bool} {ms : MA} {kas : A → List D} {G : (β : Type) → S → (A → R β) → R β}
theorem te_td (h : TD x γ ma ka ga) : TE x γ ma ka ga := fun s e μ E => (h s e μ E).imp (fun a q => ⟨_, q, .inl rfl⟩) fun _ _ q => q
theorem td_k (a : α) (k : α → D) : TD x γ (cK (k a)) k (fun _ => .ok a) := fun s e μ E => rfl
theorem td_var (i : Nat) {k : α → D} {f : S → α} (h : nth γ i = .val (fun s => k (f s)) := by rfl) : TD x γ (cV i) k (fun s => .ok (f s)) := fun s e μ E => by
  show cV i e μ = _
  unfold cV
  rw [E.val h]
theorem te_cel (i : Nat) {k : α → D} {f : S → α} {o : Option Nat} (h : nth γ i = .cel o (fun s => k (f s)) := by rfl) (hc : ∀ a, isCl (k a) = true := by intro _; rfl) : TE x γ (cV i) k (fun s => .ok (f s)) := fun s e μ E => by
  obtain ⟨n, a, b⟩ := E.cel h
  refine ⟨.ref n, ?_, .inr ⟨n, rfl, b, hc _⟩⟩
  unfold cV
  rw [a]
noncomputable def Op2T (x : Bool) (f : F2) (ka : α → D) (kb : β → D) (kc : δ → D) (op : α → β → R δ) : Prop := ∀ a b μ d1 d2, Vw μ d1 (ka a) → Vw μ d2 (kb b) → Sim x (op a b) (fun c => f d1 d2 μ = .ok (kc c, μ)) (fun c ds => f d1 d2 μ = .ex c ds μ)
noncomputable def OpNT (x : Bool) (f : FN) (ka : A → List D) (kc : δ → D) (op : A → R δ) : Prop := ∀ a μ ds, VwL μ ds (ka a) → Sim x (op a) (fun c => f ds μ = .ok (kc c, μ)) (fun c gs => f ds μ = .ex c gs μ)
noncomputable def OpNC (x : Bool) (f : FN) (ka : A → List D) (kc : δ → D) (op : A → R δ) : Prop := ∀ a μ ds, VwL μ ds (ka a) → Sim x (op a) (fun c => f ds μ = .ok (.ref μ.length, μ ++ [kc c])) (fun c gs => f ds μ = .ex c gs μ)
theorem td_bin {f : F2} {op : α → β → R δ} (ha : TE x γ ma ka ga) (hb : TE x γ mb kb gb) (ho : Op2T x f ka kb kc op) : TD x γ (cB f ma mb) kc (fun s => (ga s).bind fun a => (gb s).bind fun b => op a b) := fun s e μ E => by
  refine Sim.bind.mpr ((ha s e μ E).imp (fun a ⟨d1, q1, v1⟩ => ?_) fun c ds q => by unfold cB; rw [q]; rfl)
  refine Sim.bind.mpr ((hb s e μ E).imp (fun b ⟨d2, q2, v2⟩ => ?_) fun c ds q => by unfold cB; rw [q1]; show (mb e μ).bind _ = _; rw [q]; rfl)
  have e1 : cB f ma mb e μ = f d1 d2 μ := by
    unfold cB; rw [q1]; show (mb e μ).bind _ = _; rw [q2]; rfl
  rw [e1]
  exact ho a b μ d1 d2 v1 v2
theorem ta_nil : TA x γ cNil (fun _ : Unit => []) (fun _ _ c => c ()) := fun s e μ E => .inl ⟨(), [], rfl, trivial, rfl, fun _ _ => rfl⟩
theorem ta_cons [Kv ka] (ha : TE x γ ma ka ga) (h : TA x γ ms kas G) : TA x γ (cCons ma ms) (fun a : α × A => ka a.1 :: kas a.2) (fun β s c => (ga s).bind fun a => G β s fun r => c (a, r)) := fun s e μ E => by
  have q := ha s e μ E
  dsimp only
  revert q
  cases ga s with
  | ok a =>
    rintro ⟨d, q1, v1⟩
    rcases h s e μ E with ⟨r, ds, q2, v2, v3, hc⟩ | ⟨y, fs, q2, hc⟩ | hc
    · exact .inl ⟨(a, r), d :: ds, by unfold cCons; rw [q1]; show (ms e μ).bind _ = _; rw [q2]; rfl, ⟨v1, v2⟩, by unfold vws; rw [Kv.vw a μ d v1, v3], fun β c => hc β _⟩
    · exact .inr (.inl ⟨y, fs, fun z => by unfold cCons; rw [q1]; show (ms e μ).bind _ = _; rw [q2 z]; rfl, fun β c => hc β _⟩)
    · exact .inr (.inr fun β c => hc β _)
  | ex y fs => exact fun q => .inr (.inl ⟨y, fs, fun z => by unfold cCons; rw [q z]; rfl, fun _ _ => rfl⟩)
  | no => exact fun _ => .inr (.inr fun _ _ => rfl)
theorem tad_nil : TAD x γ cNil (fun _ : Unit => []) (fun _ _ c => c ()) := fun s e μ E => .inl ⟨(), rfl, rfl, fun _ _ => rfl⟩
theorem tad_cons {n : Dt} [Kn ka n] (ha : TD x γ ma ka ga) (h : TAD x γ ms kas G) : TAD x γ (cCons ma ms) (fun a : α × A => ka a.1 :: kas a.2) (fun β s c => (ga s).bind fun a => G β s fun r => c (a, r)) := fun s e μ E => by
  have q := ha s e μ E
  dsimp only
  revert q
  cases ga s with
  | ok a =>
    intro q1
    have q1 : ma e μ = .ok (ka a, μ) := q1
    rcases h s e μ E with ⟨r, q2, v3, hc⟩ | ⟨y, fs, q2, hc⟩ | hc
    · exact .inl ⟨(a, r), by unfold cCons; rw [q1]; show (ms e μ).bind _ = _; rw [q2]; rfl, by show (nr _ && nrs _) = true; rw [Kn.nr a, v3]; rfl, fun β c => hc β _⟩
    · exact .inr (.inl ⟨y, fs, fun z => by unfold cCons; rw [q1]; show (ms e μ).bind _ = _; rw [q2 z]; rfl, fun β c => hc β _⟩)
    · exact .inr (.inr fun β c => hc β _)
  | ex y fs => exact fun q => .inr (.inl ⟨y, fs, fun z => by unfold cCons; rw [q z]; rfl, fun _ _ => rfl⟩)
  | no => exact fun _ => .inr (.inr fun _ _ => rfl)
theorem td_fn {f : FN} {op : A → R δ} (ha : TA x γ ms kas G) (ho : OpNT x f kas kc op) : TD x γ (cF f ms) kc (fun s => G δ s op) := fun s e μ E => by
  dsimp only
  rcases ha s e μ E with ⟨a, ds, q, v, _, hc⟩ | ⟨y, fs, q, hc⟩ | hc
  · rw [hc]
    have : cF f ms e μ = f ds μ := by unfold cF; rw [q]; rfl
    rw [this]
    exact ho a μ ds v
  · rw [hc]
    exact fun z => by unfold cF; rw [q z]; rfl
  · rw [hc]; trivial
theorem tc_fn {f : FN} {op : A → R δ} (ha : TA x γ ms kas G) (ho : OpNC x f kas kc op) : TC x γ (cF f ms) kc (fun s => G δ s op) := fun s e μ E => by
  dsimp only
  rcases ha s e μ E with ⟨a, ds, q, v, _, hc⟩ | ⟨y, fs, q, hc⟩ | hc
  · rw [hc]
    have : cF f ms e μ = f ds μ := by unfold cF; rw [q]; rfl
    rw [this]
    exact ho a μ ds v
  · rw [hc]
    exact fun z => by unfold cF; rw [q z]; rfl
  · rw [hc]; trivial
theorem tt_val {k : Bool → D} {g : S → R Bool} (h : TD x γ ma D.bl g) : TT x γ (tVal ma) g := fun s e μ E => (h s e μ E).imp (fun a q => by unfold tVal; rw [q]; rfl) fun c ds q => by unfold tVal; rw [q]; rfl
theorem tt_and (h : TT x γ ta ba) (k : TT x γ tb bb) : TT x γ (tAndD ta tb) (fun s => (ba s).bind fun b => if b then bb s else .ok false) := fun s e μ E => Sim.bind.mpr ((h s e μ E).imp (fun a q => by
  have e1 : tAndD ta tb e μ = if a then tb e μ else .ok (false, μ) := by unfold tAndD; rw [q]; rfl
  rw [e1]
  cases a with
  | true => exact k s e μ E
  | false => exact rfl) fun c ds q => by unfold tAndD; rw [q]; rfl)
end
end Lr
namespace Lr
open PySem L2
inductive Fl (N L ρ : Type) where
  | nx (n : N) | bk (l : L) | ct (l : L) | rt (r : ρ)
noncomputable def R.seq {Y N L ρ : Type} (r : R (Fl Y L ρ)) (f : Y → R (Fl N L ρ)) : R (Fl N L ρ) := r.bind fun o => match o with
  | .nx y => f y
  | .bk l => .ok (.bk l)
  | .ct l => .ok (.ct l)
  | .rt r => .ok (.rt r)
noncomputable def R.fin {N L ρ : Type} (r : R (Fl N L ρ)) : R ρ := r.bind fun o => match o with
  | .rt r => .ok r
  | _ => .no
noncomputable def R.finU {N L : Type} (r : R (Fl N L Unit)) : R Unit := r.bind fun o => match o with
  | .rt r => .ok r
  | .nx _ => .ok ()
  | _ => .no
section
variable {Y N L M ρ α : Type}
theorem R.seq_nx {y : Y} {f : Y → R (Fl N L ρ)} : R.seq (.ok (.nx y)) f = f y := id rfl
end
noncomputable def forL {X L M ρ : Type} (b : L → X → R (Fl L L ρ)) : List X → L → R (Fl L M ρ)
  | [], l => .ok (.nx l)
  | x :: r, l => (b l x).bind fun o => match o with
    | .nx l' => forL b r l'
    | .ct l' => forL b r l'
    | .bk l' => .ok (.nx l')
    | .rt r => .ok (.rt r)
noncomputable def forR {X L M ρ : Type} (xs : List X) (l : L) (b : L → X → R (Fl L L ρ)) : R (Fl L M ρ) := R.gd (xs.length ≤ lineN) (forL b xs l)
noncomputable def lcL {X β : Type} (t : X → R Bool) (b : X → R β) : List X → R (List β)
  | [] => .ok []
  | x :: r => (t x).ne.bind fun z => if z then (b x).ne.bind fun y => (lcL t b r).bind fun ys => .ok (y :: ys) else lcL t b r
noncomputable def lcR {X β : Type} (xs : List X) (t : X → R Bool) (b : X → R β) : R (List β) := R.gd (xs.length ≤ lineN) (lcL t b xs)
section
variable {S : Type}
noncomputable def TB {N L ρ : Type} (x : Bool) (γ : Sls S) (m : SM) (Qn : S → N → Ev → Mu → Prop) (Ql : S → L → Ev → Mu → Prop) (Qr : ρ → D → Mu → Prop) (Qx : S → Ev → Mu → Prop) (g : S → R (Fl N L ρ)) : Prop :=
  ∀ s e μ, Enc γ s e μ → Sim x (g s) (fun o => match o with
    | .nx n => ∃ e' μ', m e μ = some (.nx e' μ') ∧ Qn s n e' μ'
    | .bk l => ∃ e' μ', m e μ = some (.bk e' μ') ∧ Ql s l e' μ'
    | .ct l => ∃ e' μ', m e μ = some (.ct e' μ') ∧ Ql s l e' μ'
    | .rt r => ∃ d μ', m e μ = some (.rt d μ') ∧ Qr r d μ') (fun c ds => ∃ e' μ', m e μ = some (.xc c ds e' μ') ∧ Qx s e' μ')
noncomputable def NoNx (m : SM) : Prop := ∀ e μ e' μ', m e μ ≠ some (.nx e' μ')
theorem nn_seq {a b : SM} (h : NoNx b) : NoNx (sSeq a b) := fun e μ e' μ' z => by
  unfold sSeq at z
  split at z
  · exact h _ _ _ _ z
  · rename_i q
    exact q _ _ z
theorem nn_ret {a : M} : NoNx (sRet a) := fun e μ e' μ' z => by
  unfold sRet eThen at z
  split at z <;> cases z
theorem seq_next {m : SM} : sSeq m sNext = m := by
  funext e μ
  unfold sSeq sNext
  split
  · rename_i h; rw [h]
  · rfl
theorem seq_ifR {c : MT} {a b r : SM} (h : NoNx a) : sSeq (sIf c a b) r = sIf c a (sSeq b r) := by
  funext e μ
  show (match sIf c a b e μ with | some (.nx e' μ') => r e' μ' | o => o) = _
  unfold sIf eThen
  cases c e μ with
  | ok z =>
    dsimp only
    cases z.1 with
    | true =>
      rw [if_pos rfl, if_pos rfl]
      split
      · rename_i q; exact absurd q (h _ _ _ _)
      · rfl
    | false => rfl
  | ex => rfl
  | no => rfl
end
section
variable {S α β N L ρ A : Type} {x : Bool} {γ : Sls S} {Qn : S → N → Ev → Mu → Prop} {Ql : S → L → Ev → Mu → Prop} {Qr : ρ → D → Mu → Prop} {Qx : S → Ev → Mu → Prop} {ma mb mi : M} {m a b r : SM} {k : α → D} {ga : S → R α} {ct : MT} {gt : S → R Bool} {gA gB g : S → R (Fl N L ρ)}
theorem tb_last (h : TB x γ (sSeq m sNext) Qn Ql Qr Qx g) : TB x γ m Qn Ql Qr Qx g := by rw [seq_next] at h; exact h
theorem tb_end (p : S → N) (w : ∀ s e μ, Enc γ s e μ → Qn s (p s) e μ) : TB x γ sNext Qn Ql Qr Qx (fun s => .ok (.nx (p s))) := fun s e μ E => ⟨e, μ, rfl, w s e μ E⟩
theorem tb_retD {k : ρ → D} {ga : S → R ρ} (h : TD x γ ma k ga) (hq : ∀ a μ, Qr a (k a) μ) (hx : x = true → ∀ s e μ, Enc γ s e μ → Qx s e μ) : TB x γ (sRet ma) Qn Ql Qr Qx (fun s => (ga s).bind fun a => .ok (.rt a)) := fun s e μ E => by
  refine Sim.bind.mpr ?_
  have h := h s e μ E
  revert h
  cases ga s with
  | ok a => exact fun q => ⟨k a, μ, by unfold sRet eThen; rw [q], hq _ _⟩
  | ex c ds => exact fun q z => ⟨e, μ, by unfold sRet eThen; rw [q z], hx z s e μ E⟩
  | no => exact fun _ => trivial
theorem tb_if (h : TT x γ ct gt) (ha : TB x γ a Qn Ql Qr Qx gA) (hb : TB x γ b Qn Ql Qr Qx gB) (hx : x = true → ∀ s e μ, Enc γ s e μ → Qx s e μ) : TB x γ (sIf ct a b) Qn Ql Qr Qx (fun s => (gt s).bind fun t => if t then gA s else gB s) := fun s e μ E => by
  refine Sim.bind.mpr ?_
  have h := h s e μ E
  revert h
  cases gt s with
  | ok t =>
    intro q
    have q : ct e μ = .ok (t, μ) := q
    have e1 : sIf ct a b e μ = if t then a e μ else b e μ := by unfold sIf eThen; rw [q]
    cases t with
    | true =>
      have := ha s e μ E
      have e1 : sIf ct a b e μ = a e μ := e1
      rw [← e1] at this
      exact this
    | false =>
      have := hb s e μ E
      have e1 : sIf ct a b e μ = b e μ := e1
      rw [← e1] at this
      exact this
  | ex c ds => exact fun q z => ⟨e, μ, by unfold sIf eThen; rw [q z], hx z s e μ E⟩
  | no => exact fun _ => trivial
theorem tb_ifR (h : TT x γ ct gt) (nn : NoNx a) (ha : TB x γ a Qn Ql Qr Qx gA) (hb : TB x γ (sSeq b r) Qn Ql Qr Qx gB) (hx : x = true → ∀ s e μ, Enc γ s e μ → Qx s e μ) : TB x γ (sSeq (sIf ct a b) r) Qn Ql Qr Qx (fun s => (gt s).bind fun t => if t then gA s else gB s) := by
  rw [seq_ifR nn]; exact tb_if h ha hb hx
theorem tb_ifR0 (h : TT x γ ct gt) (nn : NoNx a) (ha : TB x γ a Qn Ql Qr Qx gA) (hb : TB x γ r Qn Ql Qr Qx gB) (hx : x = true → ∀ s e μ, Enc γ s e μ → Qx s e μ) : TB x γ (sSeq (sIf ct a sNext) r) Qn Ql Qr Qx (fun s => (gt s).bind fun t => if t then gA s else gB s) := tb_ifR h nn ha hb hx
theorem tb_retL (i : Nat) {o : Option Nat} {k : ρ → D} {f : S → ρ} (hi : nth γ i = .cel o (fun s => k (f s))) (hq : ∀ a n μ, μ[n]? = some (k a) → Qr a (.ref n) μ) : TB x γ (sRet (cV i)) Qn Ql Qr Qx (fun s => .ok (.rt (f s))) := fun s e μ E => by
  obtain ⟨n, a, b⟩ := E.cel hi
  refine ⟨.ref n, μ, ?_, hq _ _ _ b⟩
  unfold sRet eThen cV
  rw [a]
noncomputable def Sto (x : Bool) (γ : Sls S) (m : SM) (Qx : S → Ev → Mu → Prop) (δ : Sls (S × α)) (ga : S → R α) : Prop := ∀ s e μ, Enc γ s e μ → Sim x (ga s) (fun a => ∃ e' μ', m e μ = some (.nx e' μ') ∧ Enc δ (s, a) e' μ') (fun c ds => ∃ e' μ', m e μ = some (.xc c ds e' μ') ∧ Qx s e' μ')
theorem tb_sto {δ : Sls (S × α)} {g2 : S × α → R (Fl N L ρ)} (h : Sto x γ a Qx δ ga) (k : TB x δ r (fun t => Qn t.1) (fun t => Ql t.1) Qr (fun t => Qx t.1) g2) : TB x γ (sSeq a r) Qn Ql Qr Qx (fun s => (ga s).bind fun v => g2 (s, v)) := fun s e μ E => by
  refine Sim.bind.mpr ?_
  have h := h s e μ E
  revert h
  cases ga s with
  | ok v =>
    rintro ⟨e', μ', q, E'⟩
    have := k (s, v) e' μ' E'
    have e1 : sSeq a r e μ = r e' μ' := by unfold sSeq; rw [q]
    rw [← e1] at this
    exact this
  | ex c ds => exact fun h z => by obtain ⟨e', μ', q, w⟩ := h z; exact ⟨e', μ', by unfold sSeq; rw [q], w⟩
  | no => exact fun _ => trivial
theorem tb_stoC {f : S × α → D} {i : Nat} {g2 : S × α → R (Fl N L ρ)} (h : ∀ s e μ, Enc γ s e μ → Sim x (ga s) (fun v => a e μ = some (.nx (e.set i (some (.ref μ.length))) (μ ++ [f (s, v)]))) (fun c ds => ∃ e' μ', a e μ = some (.xc c ds e' μ') ∧ Qx s e' μ'))
    (k : ∀ n, TB x (put (lifts Prod.fst γ) i (.cel (some n) f)) r (fun t => Qn t.1) (fun t => Ql t.1) Qr (fun t => Qx t.1) g2) : TB x γ (sSeq a r) Qn Ql Qr Qx (fun s => (ga s).bind fun v => g2 (s, v)) := fun s e μ E => by
  refine Sim.bind.mpr ?_
  have h := h s e μ E
  revert h
  cases ga s with
  | ok v =>
    intro q
    have q : a e μ = some (.nx (e.set i (some (.ref μ.length))) (μ ++ [f (s, v)])) := q
    have := k μ.length (s, v) _ _ ((Enc.lift (p := Prod.fst) (t := (s, v)) E).setC i f)
    have e1 : sSeq a r e μ = r (e.set i (some (.ref μ.length))) (μ ++ [f (s, v)]) := by unfold sSeq; rw [q]
    rw [← e1] at this
    exact this
  | ex c ds => exact fun h z => by obtain ⟨e', μ', q, w⟩ := h z; exact ⟨e', μ', by unfold sSeq; rw [q], w⟩
  | no => exact fun _ => trivial
theorem tb_set (i : Nat) {g2 : S × α → R (Fl N L ρ)} (h : TD x γ ma k ga) (kk : TB x (put (lifts Prod.fst γ) i (.val fun t => k t.2)) r (fun t => Qn t.1) (fun t => Ql t.1) Qr (fun t => Qx t.1) g2) (hx : x = true → ∀ s e μ, Enc γ s e μ → Qx s e μ) :
    TB x γ (sSeq (sSet i ma) r) Qn Ql Qr Qx (fun s => (ga s).bind fun v => g2 (s, v)) := tb_sto (δ := put (lifts Prod.fst γ) i (.val fun t => k t.2)) (fun s e μ E => by
  have h := h s e μ E
  revert h
  cases ga s with
  | ok v => exact fun q => ⟨_, _, by unfold sSet eThen; rw [q], (Enc.lift (p := Prod.fst) (t := (s, v)) E).setV i fun t => k t.2⟩
  | ex c ds => exact fun q z => ⟨e, μ, by unfold sSet eThen; rw [q z], hx z s e μ E⟩
  | no => exact fun _ => trivial) kk
theorem tb_setC (i : Nat) {g2 : S × α → R (Fl N L ρ)} (h : TC x γ ma k ga) (kk : ∀ n, TB x (put (lifts Prod.fst γ) i (.cel (some n) fun t => k t.2)) r (fun t => Qn t.1) (fun t => Ql t.1) Qr (fun t => Qx t.1) g2) (hx : x = true → ∀ s e μ, Enc γ s e μ → Qx s e μ) :
    TB x γ (sSeq (sSet i ma) r) Qn Ql Qr Qx (fun s => (ga s).bind fun v => g2 (s, v)) := tb_stoC (f := fun t => k t.2) (fun s e μ E => by
  have h := h s e μ E
  revert h
  cases ga s with
  | ok v =>
    intro q
    have q : ma e μ = .ok (.ref μ.length, μ ++ [k v]) := q
    show sSet i ma e μ = _
    unfold sSet eThen; rw [q]
  | ex c ds => exact fun q z => ⟨e, μ, by unfold sSet eThen; rw [q z], hx z s e μ E⟩
  | no => exact fun _ => trivial) kk
noncomputable def Tgt {X : Type} (T : Tg) (k : X → D) (ws : List (Nat × (X → D))) : Prop := ∀ v e, setT T (k v) e = some (ws.foldl (fun e w => e.set w.1 (some (w.2 v))) e)
noncomputable def puts {X : Type} (γ : Sls S) : List (Nat × (X → D)) → Sls (S × X)
  | ws => ws.foldl (fun γ w => put γ w.1 (.val fun t => w.2 t.2)) (lifts Prod.fst γ)
theorem Enc.puts {X : Type} {s : S} {v : X} {e : Ev} {μ : Mu} (E : Enc γ s e μ) (ws : List (Nat × (X → D))) : Enc (puts γ ws) (s, v) (ws.foldl (fun e w => e.set w.1 (some (w.2 v))) e) μ := by
  have key : ∀ (ws : List (Nat × (X → D))) (δ : Sls (S × X)) e, Enc δ (s, v) e μ → Enc (ws.foldl (fun γ w => put γ w.1 (.val fun t => w.2 t.2)) δ) (s, v) (ws.foldl (fun e w => e.set w.1 (some (w.2 v))) e) μ := by
    intro ws
    induction ws with
    | nil => exact fun _ _ h => h
    | cons w r ih => exact fun δ e h => ih _ _ (h.setV w.1 fun t => w.2 t.2)
  exact key ws _ e (Enc.lift (p := Prod.fst) (t := (s, v)) E)
noncomputable def TI {X : Type} (x : Bool) (γ : Sls S) (mi : MI) (k : X → D) (g : S → R (List X)) : Prop := ∀ s e μ, Enc γ s e μ → Sim x (g s) (fun xs => mi e μ = .ok (.fix (xs.map k), μ)) (fun c ds => mi e μ = .ex c ds μ)
theorem for_run {X L' : Type} {T : Tg} {k : X → D} {ws : List (Nat × (X → D))} {δ : Sls (S × L')} {mb : SM} {gb : (S × L') × X → R (Fl L' L' ρ)} {src : Src} {s : S} (xs : List X) (ht : Tgt T k ws)
    (hb : TB x (puts δ ws) mb (fun t l => Enc δ (t.1.1, l)) (fun t l => Enc δ (t.1.1, l)) Qr (fun t => Qx t.1.1) gb) (hs : ∀ l e μ, Enc δ (s, l) e μ → items src μ = some (xs.map k)) :
    ∀ (rem : List X) (i f : Nat) (l : L') (e : Ev) (μ : Mu), rem = xs.drop i → rem.length < f → Enc δ (s, l) e μ → Sim x (forL (M := L) (fun l v => gb ((s, l), v)) rem l) (fun o => match o with
      | .nx l => ∃ e' μ', forGo T mb src f i e μ = some (.nx e' μ') ∧ Enc δ (s, l) e' μ'
      | .bk l => False
      | .ct l => False
      | .rt v => ∃ d μ', forGo T mb src f i e μ = some (.rt d μ') ∧ Qr v d μ') (fun c ds => ∃ e' μ', forGo T mb src f i e μ = some (.xc c ds e' μ') ∧ Qx s e' μ') := by
  intro rem
  induction rem with
  | nil =>
    intro i f l e μ hr hf E
    obtain ⟨f, rfl⟩ : ∃ g, f = g + 1 := ⟨f - 1, by omega⟩
    refine ⟨e, μ, ?_, E⟩
    unfold forGo
    rw [hs l e μ E]
    have : (xs.map k)[i]? = none := by
      rw [List.getElem?_eq_none_iff, List.length_map]
      exact List.drop_eq_nil_iff.mp hr.symm
    simp only [this]
  | cons v rem ih =>
    intro i f l e μ hr hf E
    obtain ⟨f, rfl⟩ : ∃ g, f = g + 1 := ⟨f - 1, by omega⟩
    have hv : (xs.map k)[i]? = some (k v) := by
      rw [List.getElem?_map]
      have : xs[i]? = some v := by
        have := congrArg (fun z => z[0]?) hr
        simpa [List.getElem?_drop] using this.symm
      rw [this]; rfl
    have hr' : rem = xs.drop (i + 1) := by
      have := congrArg List.tail hr
      simpa [List.tail_drop] using this
    unfold forL
    refine Sim.bind.mpr ?_
    have hbv := hb ((s, l), v) _ μ (E.puts (v := v) ws)
    have step : ∀ z, forGo T mb src (f + 1) i e μ = z ↔ (match mb (ws.foldl (fun e w => e.set w.1 (some (w.2 v))) e) μ with
          | some (.nx e2 μ2) => forGo T mb src f (i + 1) e2 μ2
          | some (.ct e2 μ2) => forGo T mb src f (i + 1) e2 μ2
          | some (.bk e2 μ2) => some (.nx e2 μ2)
          | r => r) = z := fun z => by
      rw [forGo]
      simp only [hs l e μ E, hv]
      rw [ht v e]
      try exact Iff.rfl
    simp only [step]
    revert hbv
    cases gb ((s, l), v) with
    | ok o =>
      cases o with
      | nx l' =>
        rintro ⟨e', μ', q, E'⟩
        simp only [q]
        exact ih (i + 1) f l' e' μ' hr' (by simp at hf; omega) E'
      | ct l' =>
        rintro ⟨e', μ', q, E'⟩
        simp only [q]
        exact ih (i + 1) f l' e' μ' hr' (by simp at hf; omega) E'
      | bk l' =>
        rintro ⟨e', μ', q, E'⟩
        simp only [q]
        exact ⟨e', μ', rfl, E'⟩
      | rt w =>
        rintro ⟨d, μ', q, z⟩
        simp only [q]
        exact ⟨d, μ', rfl, z⟩
    | ex c ds =>
      intro h z
      obtain ⟨e', μ', q, w⟩ := h z
      simp only [q]
      exact ⟨e', μ', rfl, w⟩
    | no => exact fun _ => trivial
section
variable {X L' : Type} {T : Tg} {kx : X → D} {ws : List (Nat × (X → D))} {δ : Sls (S × L')} {mx : MI} {bm : SM} {gi : S → R (List X)} {gb : (S × L') × X → R (Fl L' L' ρ)} {g2 : S × L' → R (Fl N L ρ)}
theorem tb_for (l0 : S → L') (hi : TI x γ mx kx gi) (ht : Tgt T kx ws) (w : Wk (fun s => (s, l0 s)) γ δ) (hb : TB x (puts δ ws) bm (fun t l => Enc δ (t.1.1, l)) (fun t l => Enc δ (t.1.1, l)) Qr (fun t => Qx t.1.1) gb)
    (kk : TB x δ r (fun t => Qn t.1) (fun t => Ql t.1) Qr (fun t => Qx t.1) g2) (hx : x = true → ∀ s e μ, Enc γ s e μ → Qx s e μ) :
    TB x γ (sSeq (sFor T mx bm) r) Qn Ql Qr Qx (fun s => (gi s).bind fun xs => (forR xs (l0 s) fun l v => gb ((s, l), v)).seq fun l => g2 (s, l)) := fun s e μ E => by
  refine Sim.bind.mpr ?_
  have h := hi s e μ E
  revert h
  cases gi s with
  | ok xs =>
    intro q
    have q : mx e μ = .ok (.fix (xs.map kx), μ) := q
    show Sim x ((forR xs (l0 s) fun l v => gb ((s, l), v)).seq fun l => g2 (s, l)) _ _
    unfold forR
    by_cases hl : xs.length ≤ lineN
    · rw [R.gd_t hl]
      have run := for_run (Qx := Qx) (L := L) (src := .fix (xs.map kx)) (s := s) xs ht hb (fun _ _ _ _ => rfl) xs 0 fuel (l0 s) e μ rfl (Nat.lt_of_le_of_lt hl (by have := fuel_ge; unfold lineN; omega)) (Enc.wk (p := fun s => (s, l0 s)) w E)
      have e0 : ∀ z, sFor T mx bm e μ = z ↔ forGo T bm (.fix (xs.map kx)) fuel 0 e μ = z := fun z => by unfold sFor eThen; rw [q]
      unfold R.seq
      refine Sim.bind.mpr ?_
      revert run
      cases forL (M := L) (fun l v => gb ((s, l), v)) xs (l0 s) with
      | ok o =>
        cases o with
        | nx l =>
          rintro ⟨e', μ', q2, E'⟩
          have := kk (s, l) e' μ' E'
          have e1 : sSeq (sFor T mx bm) r e μ = r e' μ' := by unfold sSeq; rw [(e0 _).mpr q2]
          rw [← e1] at this
          exact this
        | bk l => exact fun h => h.elim
        | ct l => exact fun h => h.elim
        | rt v => exact fun ⟨d, μ', q2, z⟩ => ⟨d, μ', by unfold sSeq; rw [(e0 _).mpr q2], z⟩
      | ex c ds => exact fun h z => by obtain ⟨e', μ', q2, w⟩ := h z; exact ⟨e', μ', by unfold sSeq; rw [(e0 _).mpr q2], w⟩
      | no => exact fun _ => trivial
    · unfold R.gd
      rw [if_neg hl]; trivial
  | ex c ds => exact fun q z => ⟨e, μ, by unfold sSeq sFor eThen; rw [q z], hx z s e μ E⟩
  | no => exact fun _ => trivial
end
end
end Lr
namespace Lr
open PySem L2
noncomputable def kNon : Unit → D := fun _ => .non
noncomputable def kT0 : Unit → D := fun _ => .tup []
section
variable {α β δ ε ζ : Type}
noncomputable def kT1 (k : α → D) : α → D := fun p => .tup [k p]
noncomputable def kT2 (k : α → D) (l : β → D) : α × β → D := fun p => .tup [k p.1, l p.2]
noncomputable def kT3 (k : α → D) (l : β → D) (m : δ → D) : α × β × δ → D := fun p => .tup [k p.1, l p.2.1, m p.2.2]
noncomputable def kT4 (k : α → D) (l : β → D) (m : δ → D) (o : ε → D) : α × β × δ × ε → D := fun p => .tup [k p.1, l p.2.1, m p.2.2.1, o p.2.2.2]
noncomputable def kT5 (k : α → D) (l : β → D) (m : δ → D) (o : ε → D) (q : ζ → D) : α × β × δ × ε × ζ → D := fun p => .tup [k p.1, l p.2.1, m p.2.2.1, o p.2.2.2.1, q p.2.2.2.2]
noncomputable def kTp (k : α → D) : List α → D := fun xs => .tup (xs.map k)
noncomputable def kLs (k : α → D) : List α → D := fun xs => .lst (xs.map k)
noncomputable def kScr : List Int → D := fun xs => .scr (xs.map D.int)
noncomputable def kOpt (k : α → D) : Option α → D
  | none => .non
  | some a => k a
noncomputable def kDic (k : α → D) (l : β → D) : List (α × β) → D := fun kvs => .dic (kvs.map fun p => (k p.1, l p.2))
noncomputable def kDit (k : α → D) (l : β → D) : List (α × β) → D := fun kvs => .dit (kvs.map fun p => (k p.1, l p.2))
noncomputable def kObj (c : Nat) (k : α → List D) : α → D := fun a => .obj c (k a)
end
class LeD (d c : Dt) : Prop where
  le : d.n ≤ c.n
noncomputable instance {c : Dt} : LeD .o (.s c) := ⟨by show 1 ≤ c.n + 1; omega⟩
noncomputable instance {d c : Dt} [h : LeD d c] : LeD (.s d) (.s c) := ⟨Nat.succ_le_succ h.le⟩
noncomputable instance {a b c : Dt} [h : LeD a c] [k : LeD b c] : LeD (.m a b) c := ⟨Nat.max_le.mpr ⟨h.le, k.le⟩⟩
noncomputable abbrev cap : Dt := .s (.s (.s (.s (.s (.s (.s (.s (.s (.s .o)))))))))
noncomputable abbrev Le11 (n : Dt) : Prop := LeD n cap
theorem le11 {n : Dt} [h : Le11 n] : n.n ≤ 11 := h.le
local macro_rules | `(tactic| walk_at "dt") => `(tactic| ((try simp only [Dt.n] at *); omega))
section
variable {α β δ ε ζ : Type} {k : α → D} {l : β → D} {m : δ → D} {o : ε → D} {q : ζ → D} {n n2 n3 n4 n5 : Dt}
theorem il_suc {P : Nat → Prop} {m : Nat} (h : ∀ j, P (j + 1)) (hm : 1 ≤ m) : P m := by
  obtain ⟨j, rfl⟩ : ∃ j, m = j + 1 := ⟨m - 1, by first | omega | (simp only [Dt.n] at *; omega)⟩
  exact h j
noncomputable instance : Kn D.int .o := ⟨fun _ => rfl, fun a μ m h => il_suc (P := fun m => inl true μ m (D.int a) = some (D.int a)) (fun _ => rfl) h⟩
noncomputable instance : Kn D.str .o := ⟨fun _ => rfl, fun a μ m h => il_suc (P := fun m => inl true μ m (D.str a) = some (D.str a)) (fun _ => rfl) h⟩
noncomputable instance : Kn D.bl .o := ⟨fun _ => rfl, fun a μ m h => il_suc (P := fun m => inl true μ m (D.bl a) = some (D.bl a)) (fun _ => rfl) h⟩
noncomputable instance : Kn kNon .o := ⟨fun _ => rfl, fun a μ m h => il_suc (P := fun m => inl true μ m .non = some .non) (fun _ => rfl) h⟩
noncomputable instance : Kf D.int .o := ⟨fun a μ m h => il_suc (P := fun m => inl false μ m (D.int a) = some (D.int a)) (fun _ => rfl) h⟩
noncomputable instance : Kf D.str .o := ⟨fun a μ m h => il_suc (P := fun m => inl false μ m (D.str a) = some (D.str a)) (fun _ => rfl) h⟩
noncomputable instance : Kf D.bl .o := ⟨fun a μ m h => il_suc (P := fun m => inl false μ m (D.bl a) = some (D.bl a)) (fun _ => rfl) h⟩
noncomputable instance : Kf kNon .o := ⟨fun a μ m h => il_suc (P := fun m => inl false μ m .non = some .non) (fun _ => rfl) h⟩
theorem mapO_map {f : D → Option D} {xs : List α} (h : ∀ a, f (k a) = some (k a)) : mapO f (xs.map k) = some (xs.map k) := mapO_id fun z hz => by
  obtain ⟨a, _, rfl⟩ := List.mem_map.mp hz
  exact h a
theorem il_tup {al : Bool} {μ : Mu} {ds : List D} {N m : Nat} (h : ∀ m, N ≤ m → mapO (inl al μ m) ds = some ds) (hm : N + 1 ≤ m) : inl al μ m (.tup ds) = some (.tup ds) := by
  obtain ⟨j, rfl⟩ : ∃ j, m = j + 1 := ⟨m - 1, by first | omega | (simp only [Dt.n] at *; omega)⟩
  show (mapO (inl al μ j) ds).map D.tup = _
  rw [h j (by walk_at "dt")]; rfl
theorem il_lst {μ : Mu} {ds : List D} {N m : Nat} (h : ∀ m, N ≤ m → mapO (inl true μ m) ds = some ds) (hm : N + 1 ≤ m) : inl true μ m (.lst ds) = some (.lst ds) := by
  obtain ⟨j, rfl⟩ : ∃ j, m = j + 1 := ⟨m - 1, by first | omega | (simp only [Dt.n] at *; omega)⟩
  show (mapO (inl true μ j) ds).map D.lst = _
  rw [h j (by walk_at "dt")]; rfl
theorem il_scr {μ : Mu} {ds : List D} {N m : Nat} (h : ∀ m, N ≤ m → mapO (inl true μ m) ds = some ds) (hm : N + 1 ≤ m) : inl true μ m (.scr ds) = some (.scr ds) := by
  obtain ⟨j, rfl⟩ : ∃ j, m = j + 1 := ⟨m - 1, by first | omega | (simp only [Dt.n] at *; omega)⟩
  show (mapO (inl true μ j) ds).map D.scr = _
  rw [h j (by walk_at "dt")]; rfl
theorem il_obj {μ : Mu} {ds : List D} {N m c : Nat} (h : ∀ m, N ≤ m → mapO (inl true μ m) ds = some ds) (hm : N + 1 ≤ m) : inl true μ m (.obj c ds) = some (.obj c ds) := by
  obtain ⟨j, rfl⟩ : ∃ j, m = j + 1 := ⟨m - 1, by first | omega | (simp only [Dt.n] at *; omega)⟩
  show (mapO (inl true μ j) ds).map (D.obj c) = _
  rw [h j (by walk_at "dt")]; rfl
class KnL {α : Type} (k : α → List D) (n : outParam Dt) : Prop where
  nr : ∀ a, nrs (k a) = true
  il : ∀ a μ m, n.n ≤ m → mapO (inl true μ m) (k a) = some (k a)
noncomputable instance [Kn k n] : Kn (kTp k) (.s n) := ⟨fun a => by show nrs (a.map k) = true; exact nrs_map fun b _ => Kn.nr b, fun a μ m h => il_tup (fun m hm => mapO_map fun b => Kn.il b μ m hm) h⟩
noncomputable instance [Kn k n] : Kn (kLs k) (.s n) := ⟨fun a => by show nrs (a.map k) = true; exact nrs_map fun b _ => Kn.nr b, fun a μ m h => il_lst (fun m hm => mapO_map fun b => Kn.il b μ m hm) h⟩
noncomputable instance : Kn kScr (.s .o) := ⟨fun a => by show nrs (a.map D.int) = true; exact nrs_map fun b _ => rfl, fun a μ m h => il_scr (fun m hm => mapO_map fun b => Kn.il (k := D.int) b μ m hm) h⟩
noncomputable instance [Kf k n] : Kf (kTp k) (.s n) := ⟨fun a μ m h => il_tup (fun m hm => mapO_map fun b => Kf.il b μ m hm) h⟩
noncomputable instance : Kn kT0 .o := ⟨fun _ => rfl, fun a μ m h => il_tup (fun m hm => rfl) h⟩
noncomputable instance : Kf kT0 .o := ⟨fun a μ m h => il_tup (fun m hm => rfl) h⟩
theorem mapO_cons {f : D → Option D} {d : D} {ds : List D} (h : f d = some d) (g : mapO f ds = some ds) : mapO f (d :: ds) = some (d :: ds) := by unfold mapO; rw [h, g]
theorem mapO_nil {f : D → Option D} : mapO f [] = some [] := rfl
theorem nrs2 {d : D} {ds : List D} (h : nr d = true) (g : nrs ds = true) : nrs (d :: ds) = true := by show (nr d && nrs ds) = true; rw [h, g]; rfl
noncomputable instance [Kn k n] : Kn (kT1 k) (.s n) := ⟨fun a => nrs2 (Kn.nr a) rfl, fun a μ m h => il_tup (fun m hm => mapO_cons (Kn.il a μ m hm) mapO_nil) h⟩
noncomputable instance [Kn k n] [Kn l n2] : Kn (kT2 k l) (.s (.m n n2)) := ⟨fun a => nrs2 (Kn.nr a.1) (nrs2 (Kn.nr a.2) rfl), fun a μ j h => il_tup (fun j hj => mapO_cons (Kn.il a.1 μ j (by walk_at "dt")) (mapO_cons (Kn.il a.2 μ j (by walk_at "dt")) mapO_nil)) h⟩
noncomputable instance [Kn k n] [Kn l n2] [Kn m n3] : Kn (kT3 k l m) (.s (.m n (.m n2 n3))) := ⟨fun a => nrs2 (Kn.nr a.1) (nrs2 (Kn.nr a.2.1) (nrs2 (Kn.nr a.2.2) rfl)), fun a μ j h => il_tup (fun j hj => mapO_cons (Kn.il a.1 μ j (by walk_at "dt")) (mapO_cons (Kn.il a.2.1 μ j (by walk_at "dt")) (mapO_cons (Kn.il a.2.2 μ j (by walk_at "dt")) mapO_nil))) h⟩
noncomputable instance [Kn k n] [Kn l n2] [Kn m n3] [Kn o n4] : Kn (kT4 k l m o) (.s (.m n (.m n2 (.m n3 n4)))) := ⟨fun a => nrs2 (Kn.nr a.1) (nrs2 (Kn.nr a.2.1) (nrs2 (Kn.nr a.2.2.1) (nrs2 (Kn.nr a.2.2.2) rfl))), fun a μ j h => il_tup (fun j hj => mapO_cons (Kn.il a.1 μ j (by walk_at "dt")) (mapO_cons (Kn.il a.2.1 μ j (by walk_at "dt")) (mapO_cons (Kn.il a.2.2.1 μ j (by walk_at "dt")) (mapO_cons (Kn.il a.2.2.2 μ j (by walk_at "dt")) mapO_nil)))) h⟩
noncomputable instance [Kn k n] [Kn l n2] [Kn m n3] [Kn o n4] [Kn q n5] : Kn (kT5 k l m o q) (.s (.m n (.m n2 (.m n3 (.m n4 n5))))) := ⟨fun a => nrs2 (Kn.nr a.1) (nrs2 (Kn.nr a.2.1) (nrs2 (Kn.nr a.2.2.1) (nrs2 (Kn.nr a.2.2.2.1) (nrs2 (Kn.nr a.2.2.2.2) rfl)))), fun a μ j h => il_tup (fun j hj => mapO_cons (Kn.il a.1 μ j (by walk_at "dt")) (mapO_cons (Kn.il a.2.1 μ j (by walk_at "dt")) (mapO_cons (Kn.il a.2.2.1 μ j (by walk_at "dt")) (mapO_cons (Kn.il a.2.2.2.1 μ j (by walk_at "dt")) (mapO_cons (Kn.il a.2.2.2.2 μ j (by walk_at "dt")) mapO_nil))))) h⟩
noncomputable instance [Kf k n] : Kf (kT1 k) (.s n) := ⟨fun a μ m h => il_tup (fun m hm => mapO_cons (Kf.il a μ m hm) mapO_nil) h⟩
noncomputable instance [Kf k n] [Kf l n2] : Kf (kT2 k l) (.s (.m n n2)) := ⟨fun a μ j h => il_tup (fun j hj => mapO_cons (Kf.il a.1 μ j (by walk_at "dt")) (mapO_cons (Kf.il a.2 μ j (by walk_at "dt")) mapO_nil)) h⟩
noncomputable instance [Kf k n] [Kf l n2] [Kf m n3] : Kf (kT3 k l m) (.s (.m n (.m n2 n3))) := ⟨fun a μ j h => il_tup (fun j hj => mapO_cons (Kf.il a.1 μ j (by walk_at "dt")) (mapO_cons (Kf.il a.2.1 μ j (by walk_at "dt")) (mapO_cons (Kf.il a.2.2 μ j (by walk_at "dt")) mapO_nil))) h⟩
noncomputable instance [Kf k n] [Kf l n2] [Kf m n3] [Kf o n4] : Kf (kT4 k l m o) (.s (.m n (.m n2 (.m n3 n4)))) := ⟨fun a μ j h => il_tup (fun j hj => mapO_cons (Kf.il a.1 μ j (by walk_at "dt")) (mapO_cons (Kf.il a.2.1 μ j (by walk_at "dt")) (mapO_cons (Kf.il a.2.2.1 μ j (by walk_at "dt")) (mapO_cons (Kf.il a.2.2.2 μ j (by walk_at "dt")) mapO_nil)))) h⟩
noncomputable instance [Kf k n] [Kf l n2] [Kf m n3] [Kf o n4] [Kf q n5] : Kf (kT5 k l m o q) (.s (.m n (.m n2 (.m n3 (.m n4 n5))))) := ⟨fun a μ j h => il_tup (fun j hj => mapO_cons (Kf.il a.1 μ j (by walk_at "dt")) (mapO_cons (Kf.il a.2.1 μ j (by walk_at "dt")) (mapO_cons (Kf.il a.2.2.1 μ j (by walk_at "dt")) (mapO_cons (Kf.il a.2.2.2.1 μ j (by walk_at "dt")) (mapO_cons (Kf.il a.2.2.2.2 μ j (by walk_at "dt")) mapO_nil))))) h⟩
noncomputable instance [Kn k n] : Kn (kOpt k) (.s n) := ⟨fun a => by cases a with | none => rfl | some a => exact Kn.nr a, fun a μ m h => by
  cases a with
  | none => exact il_suc (P := fun m => inl true μ m .non = some .non) (fun _ => rfl) (by walk_at "dt")
  | some a => exact Kn.il a μ m (by walk_at "dt")⟩
noncomputable instance [Kf k n] : Kf (kOpt k) (.s n) := ⟨fun a μ m h => by
  cases a with
  | none => exact il_suc (P := fun m => inl false μ m .non = some .non) (fun _ => rfl) (by walk_at "dt")
  | some a => exact Kf.il a μ m (by walk_at "dt")⟩
noncomputable instance {k : α → List D} {c : Nat} [KnL k n] : Kn (kObj c k) (.s n) := ⟨fun a => KnL.nr (k := k) a, fun a μ m h => il_obj (fun m hm => KnL.il a μ m hm) h⟩
theorem nrk_map {k : α → D} {l : β → D} [Kn l n2] : ∀ xs : List (α × β), nrk (xs.map fun p => (k p.1, l p.2)) = true
  | [] => rfl
  | p :: r => by show (nr _ && nrk _) = true; rw [Kn.nr, nrk_map r]; rfl
theorem il_dic {μ : Mu} {l : β → D} {k : α → D} [Kn l n2] {j : Nat} (hj : n2.n ≤ j) : ∀ xs : List (α × β), mapO (fun p : D × D => (inl true μ j p.2).map fun d => (p.1, d)) (xs.map fun p => (k p.1, l p.2)) = some (xs.map fun p => (k p.1, l p.2)) := fun xs => mapO_id fun z hz => by
  obtain ⟨p, _, rfl⟩ := List.mem_map.mp hz
  dsimp only
  rw [Kn.il p.2 μ j hj]; rfl
noncomputable instance [Kn l n2] : Kn (kDic k l) (.s n2) := ⟨fun a => nrk_map a, fun a μ j h => by
  obtain ⟨j, rfl⟩ : ∃ i, j = i + 1 := ⟨j - 1, by simp only [Dt.n] at *; omega⟩
  show (mapO _ _).map D.dic = _
  rw [il_dic (by walk_at "dt")]; rfl⟩
noncomputable instance [Kn l n2] : Kn (kDit k l) (.s n2) := ⟨fun a => nrk_map a, fun a μ j h => by
  obtain ⟨j, rfl⟩ : ∃ i, j = i + 1 := ⟨j - 1, by simp only [Dt.n] at *; omega⟩
  show (mapO _ _).map D.dit = _
  rw [il_dic (by walk_at "dt")]; rfl⟩
theorem vw_kn {n : Dt} [Kn k n] (a : α) (μ : Mu) : vw μ (k a) = some (k a) := vw_nr (Kn.nr a)
theorem kv_nc {n : Dt} [Kn k n] (h : ∀ a, isCl (k a) = false) : Kv k := ⟨fun a μ d v => by rw [v.eq (h a)]; exact vw_kn a μ⟩
noncomputable instance : Kv D.int := kv_nc fun _ => rfl
noncomputable instance : Kv D.str := kv_nc fun _ => rfl
noncomputable instance : Kv D.bl := kv_nc fun _ => rfl
noncomputable instance : Kv kNon := kv_nc fun _ => rfl
noncomputable instance : Kv kScr := kv_nc fun _ => rfl
noncomputable instance : Kv kT0 := kv_nc fun _ => rfl
noncomputable instance [Kn k n] : Kv (kTp k) := kv_nc fun _ => rfl
noncomputable instance [Kn k n] : Kv (kT1 k) := kv_nc fun _ => rfl
noncomputable instance [Kn k n] [Kn l n2] : Kv (kT2 k l) := kv_nc fun _ => rfl
noncomputable instance [Kn k n] [Kn l n2] [Kn m n3] : Kv (kT3 k l m) := kv_nc fun _ => rfl
noncomputable instance [Kn k n] [Kn l n2] [Kn m n3] [Kn o n4] : Kv (kT4 k l m o) := kv_nc fun _ => rfl
noncomputable instance [Kn k n] [Kn l n2] [Kn m n3] [Kn o n4] [Kn q n5] : Kv (kT5 k l m o q) := kv_nc fun _ => rfl
theorem vw_ref (j : Nat) (μ : Mu) : vw μ (.ref j) = inl true μ 12 (.ref j) := if_neg (by simp [nr])
theorem vw_cl {μ : Mu} {j : Nat} {xs : List α} [Kn k n] [Le11 n] (h : μ[j]? = some (kLs k xs)) : vw μ (.ref j) = some (kLs k xs) := by
  rw [vw_ref]
  unfold inl
  rw [h]
  show (mapO (inl true μ 11) (xs.map k)).map D.lst = _
  rw [mapO_map fun b => Kn.il b μ 11 le11]; rfl
theorem vf_cl {μ : Mu} {j : Nat} {xs : List α} [Kf k n] [Le11 n] (h : μ[j]? = some (kLs k xs)) : vf μ (.ref j) = some (kLs k xs) := by
  unfold vf
  rw [if_neg (by simp [scal])]
  unfold inl
  rw [h]
  show (mapO (inl false μ 11) (xs.map k)).map D.lst = _
  rw [mapO_map fun b => Kf.il b μ 11 le11]; rfl
noncomputable instance [Kn k n] [Le11 n] : Kv (kLs k) := ⟨fun a μ d v => by
  rcases v with rfl | ⟨j, rfl, h, _⟩
  · exact vw_kn (k := kLs k) a μ
  · exact vw_cl h⟩
noncomputable instance [Kn l n2] [Le11 n2] : Kv (kDic k l) := ⟨fun a μ d v => by
  rcases v with rfl | ⟨j, rfl, h, _⟩
  · exact vw_kn (k := kDic k l) a μ
  · rw [vw_ref]
    unfold inl
    rw [h]
    show (mapO _ _).map D.dic = _
    rw [il_dic le11]; rfl⟩
noncomputable instance [Kn l n2] [Le11 n2] : Kv (kDit k l) := ⟨fun a μ d v => by
  rcases v with rfl | ⟨j, rfl, h, _⟩
  · exact vw_kn (k := kDit k l) a μ
  · rw [vw_ref]
    unfold inl
    rw [h]
    show (mapO _ _).map D.dit = _
    rw [il_dic le11]; rfl⟩
noncomputable instance {k : α → List D} {c : Nat} [KnL k n] [Le11 n] : Kv (kObj c k) := ⟨fun a μ d v => by
  rcases v with rfl | ⟨j, rfl, h, _⟩
  · exact vw_kn (k := kObj c k) a μ
  · rw [vw_ref]
    unfold inl
    rw [h]
    show (mapO (inl true μ 11) (k a)).map (D.obj c) = _
    rw [KnL.il a μ 11 le11]; rfl⟩
end
section
variable {A ρ S N L : Type} {x : Bool}
noncomputable def TF (q x : Bool) (ka : A → List D) (kr : ρ → D) (F : GF) (f : A → R ρ) : Prop := ∀ a, Sim x (f a) (fun r => ∃ d μ', F (ka a) [] = .ok (d, μ') ∧ vw μ' d = some (kr r) ∧ (q = true → vf μ' d = some (kr r))) (fun c ds => ∃ μ', F (ka a) [] = .ex c ds μ')
noncomputable def Qret (q : Bool) (kr : ρ → D) (r : ρ) (d : D) (μ : Mu) : Prop := vw μ d = some (kr r) ∧ (q = true → vf μ d = some (kr r))
theorem qr_d {k : ρ → D} {n : Dt} [Kn k n] : ∀ (a : ρ) (μ : Mu), Qret false k a (k a) μ := fun a μ => ⟨vw_kn a μ, fun h => by cases h⟩
theorem vf_kf {k : ρ → D} {n : Dt} [Kf k n] [Le11 n] (a : ρ) (μ : Mu) : vf μ (k a) = some (k a) := by
  unfold vf
  split
  · rfl
  · exact Kf.il a μ 12 (Nat.le_succ_of_le le11)
theorem qr_f {q : Bool} {k : ρ → D} {n n2 : Dt} [Kn k n] [Kf k n2] [Le11 n2] : ∀ (a : ρ) (μ : Mu), Qret q k a (k a) μ := fun a μ => ⟨vw_kn a μ, fun _ => vf_kf a μ⟩
theorem qr_l {q : Bool} {α : Type} {k : α → D} {n n2 : Dt} [Kn k n] [Le11 n] [Kf k n2] [Le11 n2] : ∀ (a : List α) (j : Nat) (μ : Mu), μ[j]? = some (kLs k a) → Qret q (kLs k) a (.ref j) μ := fun a j μ h => ⟨vw_cl h, fun _ => vf_cl h⟩
noncomputable def uns {A : Type} : Nat → Sls A
  | 0 => []
  | r + 1 => .un :: uns r
noncomputable def starts {A : Type} : List (A → D) → Nat → Sls A
  | [], r => uns r
  | f :: fs, r => .val f :: starts fs r
theorem uns_len {r : Nat} : (uns (A := A) r).length = r := by
  induction r with
  | zero => rfl
  | succ r ih => simp only [uns, List.length_cons, ih]
theorem uns_at {r : Nat} : ∀ i, nth (uns (A := A) r) i = .un := by
  induction r with
  | zero => intro i; rfl
  | succ r ih => intro i; cases i with
    | zero => rfl
    | succ i => exact ih i
theorem starts_len {fs : List (A → D)} {r : Nat} : (starts fs r).length = fs.length + r := by
  induction fs with
  | nil => simp only [starts, uns_len, List.length_nil]; omega
  | cons f fs ih => simp only [starts, List.length_cons, ih]; omega
theorem starts_nc {fs : List (A → D)} {r : Nat} : ∀ i, (nth (starts fs r) i).isC = false := by
  induction fs with
  | nil => intro i; show (nth (uns r) i).isC = false; rw [uns_at]; rfl
  | cons f fs ih => intro i; cases i with
    | zero => rfl
    | succ i => exact ih i
theorem enc_start (fs : List (A → D)) (r : Nat) (a : A) (μ : Mu) : Enc (starts fs r) a ((fs.map fun f => some (f a)) ++ List.replicate r none) μ := by
  refine ⟨by rw [starts_len]; simp, ?_, fun i j n ci => by rw [starts_nc] at ci; cases ci⟩
  induction fs with
  | nil => intro i; show SlOk μ a _ (nth (uns r) i); rw [uns_at]; trivial
  | cons f fs ih => intro i; cases i with
    | zero => exact rfl
    | succ i => exact ih i
variable {q : Bool} {ka : A → List D} {kr : ρ → D} {n r : Nat} {m : SM} {fs : List (A → D)} {Qn : A → N → Ev → Mu → Prop} {Ql : A → L → Ev → Mu → Prop} {Qx : A → Ev → Mu → Prop}
theorem tf_mk {g : A → R (Fl N L ρ)} (h : TB x (starts fs r) m Qn Ql (Qret q kr) Qx g) (hk : ∀ a, (ka a).map some ++ List.replicate (n - (ka a).length) none = (fs.map fun f => some (f a)) ++ List.replicate r none) : TF q x ka kr (bodyF n m) (fun a => (g a).fin) := fun a => by
  refine Sim.bind.mpr ?_
  have h := h a _ [] (enc_start fs r a [])
  revert h
  cases g a with
  | ok o =>
    cases o with
    | rt v =>
      rintro ⟨d, μ', e1, e2⟩
      refine ⟨d, μ', ?_, e2.1, e2.2⟩
      unfold bodyF
      rw [hk, e1]
    | nx => exact fun _ => trivial
    | bk => exact fun _ => trivial
    | ct => exact fun _ => trivial
  | ex c ds =>
    intro h z
    obtain ⟨e', μ', e1, _⟩ := h z
    exact ⟨μ', by unfold bodyF; rw [hk, e1]⟩
  | no => exact fun _ => trivial
theorem tf_mk3 {g : A → R (Fl N L ρ)} {f : A → R ρ} (h : TB x (starts fs r) m Qn Ql (Qret q kr) Qx g) (hk : ∀ a, (ka a).map some ++ List.replicate (n - (ka a).length) none = (fs.map fun f => some (f a)) ++ List.replicate r none) (hf : ∀ a, (g a).fin = f a) : TF q x ka kr (bodyF n m) f := by
  have : f = fun a => (g a).fin := funext fun a => (hf a).symm
  rw [this]; exact tf_mk h hk
theorem tf_mk4 {f : A → R ρ} (hk : ∀ a, (ka a).map some ++ List.replicate (n - (ka a).length) none = (fs.map fun f => some (f a)) ++ List.replicate r none) (h : ∃ g : A → R (Fl N L ρ), TB x (starts fs r) m Qn Ql (Qret q kr) Qx g ∧ ∀ a, (g a).fin = f a) : TF q x ka kr (bodyF n m) f := let ⟨_, h1, h2⟩ := h; tf_mk3 h1 hk h2
theorem TF.pure {F : GF} {f : A → R ρ} (h : TF q x ka kr F f) {a : A} {v : ρ} {μ : Mu} (hn : nrs (ka a) = true) (hf : f a = .ok v) : pureC F (ka a) μ = .ok (kr v, μ) := by
  have h := h a
  rw [hf] at h
  obtain ⟨d, μ', e1, e2, _⟩ := h
  unfold pureC retW
  rw [if_pos hn, e1]
  simp only [e2]
theorem TF.at {F : GF} {f : A → R ρ} (h : TF q x ka kr F f) {a : A} {v : ρ} (hf : f a = .ok v) : ∃ d μ', F (ka a) [] = .ok (d, μ') ∧ vw μ' d = some (kr v) := by
  have h := h a
  rw [hf] at h
  obtain ⟨d, μ', e1, e2, _⟩ := h
  exact ⟨d, μ', e1, e2⟩
end
section
variable {S α β δ A ρ O : Type} {x : Bool} {γ : Sls S} {ms : MA} {ka : A → List D} {kr : ρ → D} {G : (β : Type) → S → (A → R β) → R β} {F : GF} {f : A → R ρ} {q : Bool} {mo : M} {ko : O → D} {go : S → R O}
theorem td_call (ha : TAD false γ ms ka G) (hf : TF q false ka kr F f) : TD false γ (cF (pureC F) ms) kr (fun s => G ρ s f) := fun s e μ E => by
  dsimp only
  rcases ha s e μ E with ⟨a, e1, e2, hc⟩ | ⟨y, fs, e1, hc⟩ | hc
  · rw [hc]
    have : cF (pureC F) ms e μ = pureC F (ka a) μ := by unfold cF; rw [e1]; rfl
    rw [this]
    cases hv : f a with
    | ok v => exact hf.pure e2 hv
    | ex c ds => exact fun z => by cases z
    | no => trivial
  · rw [hc]; exact fun z => by cases z
  · rw [hc]; trivial
theorem td_callN (ha : TAD x γ ms ka G) (hf : TF q false ka kr F f) : TD x γ (cF (pureC F) ms) kr (fun s => G ρ s fun a => (f a).ne) := fun s e μ E => by
  dsimp only
  rcases ha s e μ E with ⟨a, e1, e2, hc⟩ | ⟨y, fs, e1, hc⟩ | hc
  · rw [hc]
    have : cF (pureC F) ms e μ = pureC F (ka a) μ := by unfold cF; rw [e1]; rfl
    rw [this]
    cases hv : f a with
    | ok v => exact hf.pure e2 hv
    | ex c ds => trivial
    | no => trivial
  · rw [hc]; exact fun z => by unfold cF; rw [e1 z]; rfl
  · rw [hc]; trivial
end
section
variable {S C A J V N L ρ δ : Type} {x : Bool} {γ : Sls S} {Qn : S → N → Ev → Mu → Prop} {Ql : S → L → Ev → Mu → Prop} {Qr : ρ → D → Mu → Prop} {Qx : S → Ev → Mu → Prop} {r : SM} {ms : MA} {kas : A → List D} {G : (β : Type) → S → (A → R β) → R β} {ma mi : M}
noncomputable def CellT (T : String) (kc : C → D) : Prop := ∀ c (μ : Mu) n, μ[n]? = some (kc c) → isT T (.ref n) μ = true
noncomputable def OpMD1 (x : Bool) (fm : FM) (kc : C → D) (kas : A → List D) (op : C → A → R C) : Prop := ∀ c a μ n, μ[n]? = some (kc c) → Sim x (op c a) (fun c' => ∃ d, fm (.ref n) (kas a) μ = .ok (d, μ.set n (kc c'))) (fun y fs => fm (.ref n) (kas a) μ = .ex y fs μ)
theorem tb_mutD (i : Nat) {o : Option Nat} {T : String} {fm : FM} {kc : C → D} {op : C → A → R C} {f : S → C} {g2 : S × C → R (Fl N L ρ)} (hi : nth γ i = .cel o (fun s => kc (f s))) (ha : TAD x γ ms kas G) (ht : CellT T kc) (ho : OpMD1 x fm kc kas op)
    (kk : TB x (put (lifts Prod.fst γ) i (.cel o fun t => kc t.2)) r (fun t => Qn t.1) (fun t => Ql t.1) Qr (fun t => Qx t.1) g2) (hx : x = true → ∀ s e μ, Enc γ s e μ → Qx s e μ) :
    TB x γ (sSeq (sExpr (cM T fm (cV i) ms)) r) Qn Ql Qr Qx (fun s => (G C s fun a => op (f s) a).bind fun c => g2 (s, c)) := tb_sto (δ := put (lifts Prod.fst γ) i (.cel o fun t => kc t.2)) (fun s e μ E => by
  obtain ⟨n, e1, e2⟩ := E.cel hi
  have ev : cV i e μ = .ok (.ref n, μ) := by unfold cV; rw [e1]
  rcases ha s e μ E with ⟨a, q, _, hc⟩ | ⟨y, fs, q, hc⟩ | hc
  · rw [hc]
    have h := ho (f s) a μ n e2
    have t := ht (f s) μ n e2
    have em : cM T fm (cV i) ms e μ = fm (.ref n) (kas a) μ := by
      unfold cM; rw [ev]
      show (if isT T (.ref n) μ then (ms e μ).bind _ else _) = _
      rw [if_pos t, q]; rfl
    revert h
    cases op (f s) a with
    | ok c =>
      rintro ⟨d, h⟩
      refine ⟨e, μ.set n (kc c), by unfold sExpr eThen; rw [em, h], ?_⟩
      exact (Enc.lift (p := Prod.fst) (t := (s, c)) E).mut (f := fun t => kc (f t.1)) (f' := fun t => kc t.2) (by rw [nth_lifts, hi]; rfl) e1
    | ex y fs => exact fun h z => ⟨e, μ, by unfold sExpr eThen; rw [em, h z], hx z s e μ E⟩
    | no => exact fun _ => trivial
  · rw [hc]
    have em : x = true → cM T fm (cV i) ms e μ = .ex y fs μ := fun z => by
      unfold cM; rw [ev]
      show (if isT T (.ref n) μ then (ms e μ).bind _ else _) = _
      rw [if_pos (ht (f s) μ n e2), q z]; rfl
    exact fun z => ⟨e, μ, by unfold sExpr eThen; rw [em z], hx z s e μ E⟩
  · rw [hc]; trivial) kk
end
end Lr
namespace Lr
open PySem L2
section
variable {S C A J V N L ρ δ α β : Type} {e : Ev} {μ : Mu} {x : Bool} {γ : Sls S} {Qn : S → N → Ev → Mu → Prop} {Ql : S → L → Ev → Mu → Prop} {Qr : ρ → D → Mu → Prop} {Qx : S → Ev → Mu → Prop} {r : SM} {ms : MA} {kas : A → List D} {G : (β : Type) → S → (A → R β) → R β} {ma mi mb : M}
theorem tc_lst {k : δ → D} {ms : MA} (p : A → δ) (ha : TAD x γ ms kas G) (hk : ∀ a, D.lst (kas a) = k (p a) := by intro _; rfl) (hl : ∀ a, (kas a).length ≤ 1000 := by intro _; simp) : TC x γ (cLst true ms) k (fun s => G δ s fun a => .ok (p a)) := fun s e μ E => by
  dsimp only
  rcases ha s e μ E with ⟨a, e1, e2, hc⟩ | ⟨y, fs, e1, hc⟩ | hc
  · rw [hc]
    show cLst true ms e μ = _
    unfold cLst
    rw [e1]
    show (if (kas a).length ≤ lineN then Res.ok (D.ref μ.length, μ ++ [D.lst (kas a)]) else _) = _
    rw [if_pos (len_le (Nat.le_trans (hl a) (by decide))), hk]
  · rw [hc]; exact fun z => by unfold cLst; rw [e1 z]; rfl
  · rw [hc]; trivial
noncomputable def TO (x : Bool) (γ : Sls S) (mo : MO) (g : S → R (Option Int)) : Prop := ∀ s e μ, Enc γ s e μ → Sim x (g s) (fun a => mo e μ = .ok (a, μ)) (fun c ds => mo e μ = .ex c ds μ)
theorem to_none : TO x γ oNone (fun _ => .ok none) := fun s e μ E => rfl
theorem to_some {ga : S → R Int} (h : TD x γ ma D.int ga) : TO x γ (oSome ma) (fun s => (ga s).bind fun a => .ok (some a)) := fun s e μ E => Sim.bind.mpr ((h s e μ E).imp (fun a q => by show oSome ma e μ = _; unfold oSome; rw [q]; rfl) fun _ _ q => by unfold oSome; rw [q]; rfl)
variable {ml mh : MO} {gl gh : S → R (Option Int)}
theorem sl_run {fl : Bool} {k : α → D} {ga : S → R α} {s : S} {e : Ev} {μ : Mu} {res : α → Option Int → Option Int → R δ} {P : δ → Res (D × Mu)} (E : Enc γ s e μ) (h : TE x γ ma k ga) (hl : TO x γ ml gl) (hh : TO x γ mh gh)
    (hd : ∀ a d lo hi, Vw μ d (k a) → Sim x (res a lo hi) (fun c => dSl fl d lo hi μ = P c) (fun c ds => dSl fl d lo hi μ = .ex c ds μ)) :
    Sim x ((ga s).bind fun a => (gl s).bind fun lo => (gh s).bind fun hi => res a lo hi) (fun c => cSl fl ma ml mh e μ = P c) (fun c ds => cSl fl ma ml mh e μ = .ex c ds μ) := by
  refine Sim.bind.mpr ((h s e μ E).imp (fun a ⟨d, q, v⟩ => ?_) fun _ _ q => by unfold cSl; rw [q]; rfl)
  have e0 : cSl fl ma ml mh e μ = (ml e μ).bind fun l => (mh e l.2).bind fun h => dSl fl d l.1 h.1 h.2 := by unfold cSl; rw [q]; rfl
  simp only [e0]
  refine Sim.bind.mpr ((hl s e μ E).imp (fun lo q2 => ?_) fun _ _ q => by rw [q]; rfl)
  simp only [q2, Res.bind]
  refine Sim.bind.mpr ((hh s e μ E).imp (fun hi q3 => ?_) fun _ _ q => by rw [q])
  simp only [q3]
  exact hd a d lo hi v
theorem lof_vw {k : α → D} {μ : Mu} {d : D} {a : List α} (v : Vw μ d (kLs k a)) : lof d μ = some (a.map k) ∧ (∀ z, d ≠ .str z) ∧ (∀ z, d ≠ .tup z) ∧ (∀ z, d ≠ .int z) ∧ lofT d μ = some (a.map k) := by
  rcases v with rfl | ⟨n, rfl, h, _⟩
  · exact ⟨rfl, (fun z q => by cases q), (fun z q => by cases q), (fun z q => by cases q), rfl⟩
  · refine ⟨?_, (fun z q => by cases q), (fun z q => by cases q), (fun z q => by cases q), ?_⟩
    · simp only [lof, h]; rfl
    · simp only [lofT, h]; rfl
theorem sl_lof {fl : Bool} {d : D} {μ : Mu} {xs : List D} {lo hi : Option Int} (h1 : lof d μ = some xs) (h2 : ∀ z, d ≠ .str z) (h3 : ∀ z, d ≠ .tup z) : dSl fl d lo hi μ = .ok (mkL fl (cutL xs lo hi) μ) := by
  unfold dSl
  split
  · exact absurd rfl (h2 _)
  · exact absurd rfl (h3 _)
  · rw [h1]
theorem td_slL {k : α → D} {ga : S → R (List α)} (h : TE x γ ma (kLs k) ga) (hl : TO x γ ml gl) (hh : TO x γ mh gh) : TD x γ (cSl false ma ml mh) (kLs k) (fun s => (ga s).bind fun a => (gl s).bind fun lo => (gh s).bind fun hi => .ok (cutL a lo hi)) := fun s e μ E =>
  sl_run (res := fun a lo hi => .ok (cutL a lo hi)) E h hl hh fun a d lo hi v => by
    obtain ⟨h1, h2, h3, _⟩ := lof_vw v
    show dSl false d lo hi μ = _
    rw [sl_lof h1 h2 h3, cutL_map]; rfl
theorem td_slC {ga : S → R (List Int)} (h : TD x γ ma kScr ga) (hl : TO x γ ml gl) (hh : TO x γ mh gh) : TD x γ (cSl false ma ml mh) (kLs D.int) (fun s => (ga s).bind fun a => (gl s).bind fun lo => (gh s).bind fun hi => .ok (cutL a lo hi)) := fun s e μ E =>
  sl_run (res := fun a lo hi => .ok (cutL a lo hi)) E (te_td h) hl hh fun a d lo hi v => by
    rw [v.eq rfl]
    show Res.ok (D.lst (cutL (a.map D.int) lo hi), μ) = _
    rw [cutL_map]; rfl
theorem ti_str {ga : S → R (List Nat)} (h : TD x γ ma D.str ga) : TI x γ (iVal ma) D.str (fun s => (ga s).bind fun a => .ok (sgs a)) := fun s e μ E => Sim.bind.mpr ((h s e μ E).imp (fun a q => by
  show iVal ma e μ = _
  unfold iVal; rw [q]
  show Res.ok (Src.fix (a.map fun c => D.str [c]), μ) = _
  unfold sgs; rw [List.map_map]; rfl) fun _ _ q => by unfold iVal; rw [q]; rfl)
theorem ti_lst {k : α → D} {ga : S → R (List α)} (h : TD x γ ma (kLs k) ga) : TI x γ (iVal ma) k ga := fun s e μ E => (h s e μ E).imp (fun a q => by unfold iVal; rw [q]; rfl) fun _ _ q => by unfold iVal; rw [q]; rfl
noncomputable def rgZ (lo : Int) (n : Nat) : List Int := (List.range n).map fun i => lo + (i : Nat)
theorem rgZ_len {lo : Int} {n : Nat} : (rgZ lo n).length = n := by simp [rgZ]
noncomputable def rg1 (j : Int) : R (List Int) := R.gd (okR j) (.ok (rgZ 0 j.toNat))
noncomputable def rg2 (i j : Int) : R (List Int) := R.gd (okR i ∧ okR j) (.ok (rgZ i (j - i).toNat))
theorem ti_range1 {ga : S → R Int} (h : TD x γ ma D.int ga) : TI x γ (iRange1 (cCons ma cNil)) D.int (fun s => (ga s).bind rg1) := fun s e μ E => Sim.bind.mpr ((h s e μ E).imp (fun a q => by
  unfold rg1
  refine Sim.gd fun hp => ?_
  show iRange1 (cCons ma cNil) e μ = _
  unfold iRange1 cCons
  rw [q]
  show (if okR a then _ else _) = _
  rw [if_pos hp]
  unfold rgZ rangeD
  rw [List.map_map]; rfl) fun _ _ q => by unfold iRange1 cCons; rw [q]; rfl)
noncomputable def TW {X : Type} (x : Bool) (γ : Sls S) (mi : MI) (k : X → D) (g : S → R (List X)) : Prop := ∀ s e μ, Enc γ s e μ → Sim x (g s) (fun xs => ∃ src, mi e μ = .ok (src, μ) ∧ items src μ = some (xs.map k)) (fun c ds => mi e μ = .ex c ds μ)
theorem tw_ti {X : Type} {mi : MI} {k : X → D} {g : S → R (List X)} (h : TI x γ mi k g) : TW x γ mi k g := fun s e μ E => (h s e μ E).imp (fun xs q => ⟨_, q, rfl⟩) fun _ _ q => q
noncomputable def wipeS {S : Type} (own : List Nat) : Nat → Sls S → Sls S
  | _, [] => []
  | i, x :: r => (bif own.contains i then .un else x) :: wipeS own (i + 1) r
theorem wipeS_len {own : List Nat} : ∀ {i : Nat} {γ : Sls S}, (wipeS own i γ).length = γ.length
  | _, [] => rfl
  | i, x :: r => by simp [wipeS, wipeS_len]
theorem nth_wipeS {own : List Nat} : ∀ {i : Nat} {γ : Sls S} {j : Nat}, nth (wipeS own i γ) j = bif own.contains (i + j) then .un else nth γ j
  | i, [], j => by cases own.contains (i + j) <;> rfl
  | i, x :: r, 0 => rfl
  | i, x :: r, j + 1 => by
    show nth (wipeS own (i + 1) r) j = _
    rw [nth_wipeS, show i + 1 + j = i + (j + 1) by omega]
    rfl
theorem Enc.wipe {s : S} {e : Ev} {μ : Mu} (E : Enc γ s e μ) (own : List Nat) : Enc (wipeS own 0 γ) s (wp0 own e) μ where
  len := by rw [wipeS_len]; unfold wp0; rw [List.length_mapIdx]; exact E.len
  ok := fun i => by
    rw [nth_wipeS, Nat.zero_add]
    have h := E.ok i
    unfold wp0
    rw [List.getElem?_mapIdx]
    cases hc : own.contains i with
    | true => trivial
    | false =>
      show SlOk μ s _ (nth γ i)
      cases q : e[i]? with
      | none => rw [q] at h; exact h
      | some o =>
        rw [q] at h
        exact h
  dj := fun i j n ci cj ei ej => by
    have key : ∀ k, (nth (wipeS own 0 γ) k).isC = true → (wp0 own e)[k]? = some (some (.ref n)) → (nth γ k).isC = true ∧ e[k]? = some (some (.ref n)) := fun k ck ek => by
      rw [nth_wipeS, Nat.zero_add] at ck
      unfold wp0 at ek
      rw [List.getElem?_mapIdx] at ek
      cases hc : own.contains k with
      | true => rw [hc] at ck; cases ck
      | false =>
        rw [hc] at ck ek
        refine ⟨ck, ?_⟩
        cases q : e[k]? with
        | none => rw [q] at ek; cases ek
        | some o => rw [q] at ek; exact ek
    exact E.dj i j n (key i ci ei).1 (key j cj ej).1 (key i ci ei).2 (key j cj ej).2
section
variable {X Y : Type} {T : Tg} {kx : X → D} {ky : Y → D} {ws : List (Nat × (X → D))} {mx : MI} {tst : MT} {elt : M} {own : List Nat} {gi : S → R (List X)} {gt : S × X → R Bool} {gy : S × X → R Y} {x2 x3 : Bool}
theorem lc_run2 (ht : Tgt T kx ws) (h1 : TT x2 (puts (wipeS own 0 γ) ws) tst gt) (h2 : TD x3 (puts (wipeS own 0 γ) ws) elt ky gy) {s : S} {e : Ev} {μ : Mu} (E : Enc γ s e μ) {src : Src} {xs : List X} (hs : items src μ = some (xs.map kx)) (hl : xs.length ≤ lineN) :
    ∀ (rem : List X) (i f : Nat) (acc : List Y), rem = xs.drop i → rem.length < f → acc.length ≤ i → Sim false (lcL (fun v => gt (s, v)) (fun v => gy (s, v)) rem) (fun ys => lcGo T tst elt src (wp0 own e) f i (acc.map ky) μ = .ok ((acc ++ ys).map ky, μ)) (fun _ _ => True) := by
  intro rem
  induction rem with
  | nil =>
    intro i f acc hr hf ha
    obtain ⟨f, rfl⟩ : ∃ g, f = g + 1 := ⟨f - 1, by omega⟩
    show lcGo T tst elt src (wp0 own e) (f + 1) i (acc.map ky) μ = _
    unfold lcGo
    rw [hs]
    have : (xs.map kx)[i]? = none := by
      rw [List.getElem?_eq_none_iff, List.length_map]
      exact List.drop_eq_nil_iff.mp hr.symm
    simp only [this, List.append_nil]
  | cons v rem ih =>
    intro i f acc hr hf ha
    obtain ⟨f, rfl⟩ : ∃ g, f = g + 1 := ⟨f - 1, by omega⟩
    have hv : (xs.map kx)[i]? = some (kx v) := by
      rw [List.getElem?_map]
      have : xs[i]? = some v := by
        have := congrArg (fun z => z[0]?) hr
        simpa [List.getElem?_drop] using this.symm
      rw [this]; rfl
    have hr' : rem = xs.drop (i + 1) := by
      have := congrArg List.tail hr
      simpa [List.tail_drop] using this
    have hil : i < xs.length := by
      have := congrArg List.length hr
      rw [List.length_cons, List.length_drop] at this
      omega
    have E1 := (E.wipe own).puts (v := v) ws
    unfold lcL
    refine Sim.bind.mpr ?_
    have q1 := h1 (s, v) _ μ E1
    have step : ∀ z, lcGo T tst elt src (wp0 own e) (f + 1) i (acc.map ky) μ = z ↔ (match tst (ws.foldl (fun e w => e.set w.1 (some (w.2 v))) (wp0 own e)) μ with
          | .ok (true, μ2) => match elt (ws.foldl (fun e w => e.set w.1 (some (w.2 v))) (wp0 own e)) μ2 with
            | .ok (y, μ3) => if (acc.map ky).length < lineN then lcGo T tst elt src (wp0 own e) f (i + 1) (acc.map ky ++ [y]) μ3 else .no
            | _ => .no
          | .ok (false, μ2) => lcGo T tst elt src (wp0 own e) f (i + 1) (acc.map ky) μ2
          | _ => .no) = z := fun z => by
      rw [lcGo]
      simp only [hs, hv]
      rw [ht v (wp0 own e)]
      try exact Iff.rfl
    simp only [step]
    revert q1
    cases gt (s, v) with
    | ok b =>
      intro q1
      have q1 : tst (ws.foldl (fun e w => e.set w.1 (some (w.2 v))) (wp0 own e)) μ = .ok (b, μ) := q1
      simp only [q1]
      cases b with
      | false => exact ih (i + 1) f acc hr' (by simp at hf; omega) (by omega)
      | true =>
        show Sim false (R.bind (gy (s, v)).ne _) _ _
        refine Sim.bind.mpr ?_
        have q2 := h2 (s, v) _ μ E1
        revert q2
        cases gy (s, v) with
        | ok y =>
          intro q2
          have q2 : elt (ws.foldl (fun e w => e.set w.1 (some (w.2 v))) (wp0 own e)) μ = .ok (ky y, μ) := q2
          simp only [q2]
          show Sim false (R.bind _ _) _ _
          refine Sim.bind.mpr ((ih (i + 1) f (acc ++ [y]) hr' (by simp at hf; omega) (by simp; omega)).imp (fun ys q3 => ?_) fun _ _ z => z)
          show (if (acc.map ky).length < lineN then _ else _) = _
          rw [if_pos (by rw [List.length_map]; omega)]
          rw [List.map_append] at q3
          rw [show (acc ++ y :: ys) = (acc ++ [y]) ++ ys by simp]
          exact q3
        | ex => exact fun _ => trivial
        | no => exact fun _ => trivial
    | ex => exact fun _ => trivial
    | no => exact fun _ => trivial
theorem lc_both {fl : Bool} (hi : TW x γ mx kx gi) (ht : Tgt T kx ws) (h1 : TT x2 (puts (wipeS own 0 γ) ws) tst gt) (h2 : TD x3 (puts (wipeS own 0 γ) ws) elt ky gy) {s : S} {e : Ev} {μ : Mu} (E : Enc γ s e μ) :
    Sim x ((gi s).bind fun xs => (lcR xs (fun v => gt (s, v)) fun v => gy (s, v)).ne) (fun ys => cLc fl T mx tst elt own e μ = .ok (mkL fl (ys.map ky) μ)) (fun c ds => cLc fl T mx tst elt own e μ = .ex c ds μ) := by
  refine Sim.bind.mpr ((hi s e μ E).imp (fun xs ⟨src, q, hs⟩ => ?_) fun _ _ q => by unfold cLc; rw [q]; rfl)
  have e0 : cLc fl T mx tst elt own e μ = (lcGo T tst elt src (wp0 own e) fuel 0 [] μ).bind fun r => .ok (mkL fl r.1 r.2) := by unfold cLc; rw [q]; rfl
  simp only [e0]
  unfold lcR
  by_cases hl : xs.length ≤ lineN
  · rw [R.gd_t hl]
    have h := lc_run2 ht h1 h2 E hs hl xs 0 fuel [] rfl (Nat.lt_of_le_of_lt hl (by have := fuel_ge; unfold lineN; omega)) (Nat.le_refl _)
    revert h
    cases lcL (fun v => gt (s, v)) (fun v => gy (s, v)) xs with
    | ok ys =>
      intro h
      have h : lcGo T tst elt src (wp0 own e) fuel 0 [] μ = .ok ((([] : List Y) ++ ys).map ky, μ) := h
      show (lcGo T tst elt src (wp0 own e) fuel 0 [] μ).bind _ = _
      rw [h]; rfl
    | ex => exact fun _ => trivial
    | no => exact fun _ => trivial
  · unfold R.gd
    rw [if_neg hl]; trivial
theorem td_lc (hi : TW x γ mx kx gi) (ht : Tgt T kx ws) (h1 : TT x2 (puts (wipeS own 0 γ) ws) tst gt) (h2 : TD x3 (puts (wipeS own 0 γ) ws) elt ky gy) : TD x γ (cLc false T mx tst elt own) (kLs ky) (fun s => (gi s).bind fun xs => (lcR xs (fun v => gt (s, v)) fun v => gy (s, v)).ne) := fun s e μ E => lc_both (fl := false) hi ht h1 h2 E
theorem tt_true : TT x γ tTrue (fun _ => .ok true) := fun s e μ E => rfl
end
end
end Lr
namespace Lr
open PySem L2
local macro_rules | `(tactic| walk_at "dt") => `(tactic| ((try simp only [Dt.n] at *); omega))
section
variable {α β δ T A : Type} {x : Bool} {k : α → D} {l : β → D} {μ : Mu} {d : D}
theorem vi {a : Int} (v : Vw μ d (.int a)) : d = .int a := v.eq rfl
theorem vs {a : List Nat} (v : Vw μ d (.str a)) : d = .str a := v.eq rfl
theorem vb {a : Bool} (v : Vw μ d (.bl a)) : d = .bl a := v.eq rfl
noncomputable def imulR (a b : Int) : R Int := R.gd (okMul a b) (.ok (a * b))
noncomputable def idivR (a b : Int) : R Int := R.gd (okDiv b) (.ok (a / b))
noncomputable def imodR (a b : Int) : R Int := R.gd (0 < b) (.ok (a % b))
noncomputable def addR (a b : List α) : R (List α) := R.gd (a.length + b.length ≤ lineN) (.ok (a ++ b))
noncomputable def repL (a : List α) (n : Int) : List α := (List.replicate n.toNat a).flatten
noncomputable def mulR (a : List α) (b : Int) : R (List α) := R.gd (-(2 ^ 63) ≤ b ∧ b < 2 ^ 63 ∧ a.length * b.toNat ≤ lineN) (.ok (repL a b))
noncomputable def appR (c : List α) (v : α) : R (List α) := R.gd (c.length < lineN) (.ok (c ++ [v]))
noncomputable def srtSR (a : List Nat) : R (List (List Nat)) := R.gd (a.length ≤ lineN) (.ok (sgs (srtC a)))
noncomputable def lowOk (a : List Nat) : Prop := a.length ≤ 5592405 ∧ (a.all fun c => decide (c < 128)) = true
noncomputable instance {a} : Decidable (lowOk a) := by unfold lowOk; infer_instance
noncomputable def lowR (a : List Nat) : R (List Nat) := R.gd (lowOk a) (.ok (a.map loC))
noncomputable def uppR (a : List Nat) : R (List Nat) := R.gd (lowOk a) (.ok (a.map upC))
noncomputable def joinR (o : List Nat) (a : List (List Nat)) : R (List Nat) := R.gd ((a.map List.length).sum + a.length * o.length ≤ lineN) (.ok (joinL o a))
theorem o_add {fl : Bool} : Op2T x (dAdd fl) D.int D.int D.int (fun a b => .ok (a + b)) := fun a b μ d1 d2 v1 v2 => by rw [vi v1, vi v2]; exact rfl
theorem o_mul {fl : Bool} : Op2T x (dMul fl) D.int D.int D.int imulR := fun a b μ d1 d2 v1 v2 => by rw [vi v1, vi v2]; exact Sim.gd fun h => if_pos h
theorem o_mod : Op2T x dMod D.int D.int D.int imodR := fun a b μ d1 d2 v1 v2 => by rw [vi v1, vi v2]; exact Sim.gd fun h => if_pos h
theorem o_lt : Op2T x dLt D.int D.int D.bl (fun a b => .ok (decide (a < b))) := fun a b μ d1 d2 v1 v2 => by rw [vi v1, vi v2]; exact rfl
theorem td_mulK {fl : Bool} {γ : Sls T} {ma : M} {ga : T → R Int} {c : Int} (h : TD x γ ma D.int ga) (hc : -(2 ^ 64) < c ∧ c < 2 ^ 64 := by decide) : TD x γ (cB (dMul fl) ma (cK (.int c))) D.int (fun s => (ga s).bind fun a => .ok (a * c)) := fun s e μ E => Sim.bind.mpr ((h s e μ E).imp (fun a q => by
  show cB (dMul fl) ma (cK (.int c)) e μ = _
  unfold cB; rw [q]; exact if_pos (.inr (.inl hc))) fun _ _ q => by unfold cB; rw [q]; rfl)
theorem td_kMul {fl : Bool} {γ : Sls T} {ma : M} {ga : T → R Int} {c : Int} (h : TD x γ ma D.int ga) (hc : -(2 ^ 64) < c ∧ c < 2 ^ 64 := by decide) : TD x γ (cB (dMul fl) (cK (.int c)) ma) D.int (fun s => (ga s).bind fun a => .ok (c * a)) := fun s e μ E => Sim.bind.mpr ((h s e μ E).imp (fun a q => by
  show cB (dMul fl) (cK (.int c)) ma e μ = _
  have : cB (dMul fl) (cK (.int c)) ma e μ = (ma e μ).bind fun y => dMul fl (.int c) y.1 y.2 := rfl
  rw [this, q]; exact if_pos (.inl hc)) fun c' ds q => by
  have : cB (dMul fl) (cK (.int c)) ma e μ = (ma e μ).bind fun y => dMul fl (.int c) y.1 y.2 := rfl
  rw [this, q]; rfl)
theorem td_divK {γ : Sls T} {ma : M} {ga : T → R Int} {c : Int} (h : TD x γ ma D.int ga) (hc : okDiv c := by decide) : TD x γ (cB dDiv ma (cK (.int c))) D.int (fun s => (ga s).bind fun a => .ok (a / c)) := fun s e μ E => Sim.bind.mpr ((h s e μ E).imp (fun a q => by
  show cB dDiv ma (cK (.int c)) e μ = _
  unfold cB; rw [q]; exact if_pos hc) fun _ _ q => by unfold cB; rw [q]; rfl)
theorem td_modK {γ : Sls T} {ma : M} {ga : T → R Int} {c : Int} (h : TD x γ ma D.int ga) (hc : 0 < c := by decide) : TD x γ (cB dMod ma (cK (.int c))) D.int (fun s => (ga s).bind fun a => .ok (a % c)) := fun s e μ E => Sim.bind.mpr ((h s e μ E).imp (fun a q => by
  show cB dMod ma (cK (.int c)) e μ = _
  unfold cB; rw [q]; exact if_pos hc) fun _ _ q => by unfold cB; rw [q]; rfl)
theorem pow_eq {a b : Int} {e : Ev} (h : 0 ≤ b ∧ b ≤ 1000000 ∧ a.natAbs < 2 ^ 64) : cB dPow (cK (.int a)) (cK (.int b)) e μ = .ok (.int (a ^ b.toNat), μ) := if_pos h
theorem td_pow {γ : Sls T} {a b c : Int} (h : 0 ≤ b ∧ b ≤ 1000000 ∧ a.natAbs < 2 ^ 64 := by decide) (hc : a ^ b.toNat = c := by decide +kernel) : TD x γ (cB dPow (cK (.int a)) (cK (.int b))) D.int (fun _ => .ok c) := fun s e μ E => by
  show _ = _
  rw [pow_eq h, hc]
theorem td_divP {γ : Sls T} {ma mp : M} {ga : T → R Int} {c : Int} (h : TD x γ ma D.int ga) (hp : TD x γ mp D.int (fun _ => .ok c)) (hc : okDiv c := by decide) : TD x γ (cB dDiv ma mp) D.int (fun s => (ga s).bind fun a => .ok (a / c)) := fun s e μ E => Sim.bind.mpr ((h s e μ E).imp (fun a q => by
  show cB dDiv ma mp e μ = _
  have q2 : mp e μ = .ok (.int c, μ) := hp s e μ E
  unfold cB; rw [q]; simp only [Res.bind, q2]; exact if_pos hc) fun _ _ q => by unfold cB; rw [q]; rfl)
theorem td_modP {γ : Sls T} {ma mp : M} {ga : T → R Int} {c : Int} (h : TD x γ ma D.int ga) (hp : TD x γ mp D.int (fun _ => .ok c)) (hc : 0 < c := by decide) : TD x γ (cB dMod ma mp) D.int (fun s => (ga s).bind fun a => .ok (a % c)) := fun s e μ E => Sim.bind.mpr ((h s e μ E).imp (fun a q => by
  show cB dMod ma mp e μ = _
  have q2 : mp e μ = .ok (.int c, μ) := hp s e μ E
  unfold cB; rw [q]; simp only [Res.bind, q2]; exact if_pos hc) fun _ _ q => by unfold cB; rw [q]; rfl)
theorem o_addS {fl : Bool} : Op2T x (dAdd fl) D.str D.str D.str addR := fun a b μ d1 d2 v1 v2 => by rw [vs v1, vs v2]; exact Sim.gd fun h => if_pos h
noncomputable def atR (xs : List α) (i : Int) : R α := match atI xs i with
  | some a => .ok a
  | none => .no
theorem atI_map (xs : List α) (i : Int) : atI (xs.map k) i = (atI xs i).map k := by
  unfold atI
  rw [List.length_map]
  cases ixN xs.length i with
  | none => rfl
  | some j => simp
theorem o_ixS : Op2T x dIx D.str D.int D.str (fun a b => (atR a b).bind fun c => .ok [c]) := fun a b μ d1 d2 v1 v2 => by
  rw [vs v1, vi v2]
  dsimp only
  unfold atR
  cases h : atI a b with
  | none => trivial
  | some c => show (match atI a b with | some c => _ | none => _) = _; rw [h]
theorem o_ixC : Op2T x dIx kScr D.int D.int atR := fun a b μ d1 d2 v1 v2 => by
  rw [v1.eq rfl, vi v2]
  unfold atR
  cases h : atI a b with
  | none => trivial
  | some c => show (match atI (a.map D.int) b with | some c => _ | none => _) = _; rw [atI_map, h]; rfl
theorem vw1 {ds : List D} {a : D} (h : VwL μ ds [a]) : ∃ d, ds = [d] ∧ Vw μ d a := by
  match ds, h with
  | [d], h => exact ⟨d, rfl, h.1⟩
theorem o_lenS : OpNT x dLen (fun a : List Nat × Unit => [D.str a.1]) D.int (fun a => .ok (a.1.length : Int)) := fun a μ ds v => by
  obtain ⟨d, rfl, w⟩ := vw1 v
  have v := w
  rw [vs v]; exact rfl
theorem o_lenC : OpNT x dLen (fun a : List Int × Unit => [kScr a.1]) D.int (fun a => .ok (a.1.length : Int)) := fun a μ ds v => by
  obtain ⟨d, rfl, w⟩ := vw1 v
  have v := w
  rw [v.eq rfl]
  show Res.ok (D.int ((a.1.map D.int).length : Int), μ) = _
  rw [List.length_map]
theorem o_sortSc : OpNC x (dSortA true) (fun a : List Nat × Unit => [D.str a.1]) (kLs D.str) (fun a => srtSR a.1) := fun a μ ds v => by
  obtain ⟨d, rfl, w⟩ := vw1 v
  have v := w
  rw [vs v]
  refine Sim.gd fun h => ?_
  show (if a.1.length ≤ lineN then Res.ok (D.ref μ.length, μ ++ [D.lst (chL (srtC a.1))]) else _) = _
  rw [if_pos h, chL_sgs]; rfl
class Eqk {α : Type} [DecidableEq α] (k : α → D) (n : outParam Dt) : Prop where
  pd : ∀ a m, n.n ≤ m → pd m (k a) = true
  eq : ∀ a b, PyData.eqv (toP (k a)) (toP (k b)) = decide (a = b)
  il : ∀ a μ m, n.n ≤ m → inlE μ m (k a) = some (k a)
variable {n n2 n3 : Dt}
theorem ile_z {P : Nat → Prop} (h0 : P 0) (h : ∀ j, P (j + 1)) (m : Nat) : P m := by cases m with
  | zero => exact h0
  | succ m => exact h m
noncomputable instance : Eqk D.int .o := ⟨fun a m _ => pd_int, fun a b => by simp only [toP, PyData.eqv]; rfl, fun a μ m _ => ile_z (P := fun m => inlE μ m (.int a) = some (.int a)) rfl (fun _ => rfl) m⟩
noncomputable instance : Eqk D.str .o := ⟨fun a m _ => pd_str, fun a b => beqD_str, fun a μ m _ => ile_z (P := fun m => inlE μ m (.str a) = some (.str a)) rfl (fun _ => rfl) m⟩
noncomputable instance : Eqk D.bl .o := ⟨fun a m _ => pd_bl, fun a b => by cases a <;> cases b <;> rfl, fun a μ m _ => ile_z (P := fun m => inlE μ m (.bl a) = some (.bl a)) rfl (fun _ => rfl) m⟩
theorem eqvAll_map [DecidableEq α] (h : ∀ a b, PyData.eqv (toP (k a)) (toP (k b)) = decide (a = b)) : ∀ xs ys : List α, PyData.eqvAll (toPs (xs.map k)) (toPs (ys.map k)) = decide (xs = ys)
  | [], [] => rfl
  | [], y :: ys => rfl
  | x :: xs, [] => rfl
  | x :: xs, y :: ys => by
    simp only [List.map_cons, toPs, PyData.eqvAll, h, eqvAll_map h xs ys, List.cons.injEq, Bool.decide_and]
theorem mapOE {xs : List α} {m : Nat} (h : ∀ a, inlE μ m (k a) = some (k a)) : mapO (inlE μ m) (xs.map k) = some (xs.map k) := mapO_id fun z hz => by
  obtain ⟨a, _, rfl⟩ := List.mem_map.mp hz
  exact h a
noncomputable instance [DecidableEq α] [Eqk k n] : Eqk (kTp k) (.s n) := ⟨fun a m h => by
  obtain ⟨j, rfl⟩ : ∃ j, m = j + 1 := ⟨m - 1, by simp only [Dt.n] at h; omega⟩
  exact pds_map fun b _ => Eqk.pd b j (by walk_at "dt"), fun a b => eqvAll_map (fun a b => Eqk.eq a b) a b, fun a μ m h => by
  obtain ⟨j, rfl⟩ : ∃ j, m = j + 1 := ⟨m - 1, by simp only [Dt.n] at h; omega⟩
  show (mapO (inlE μ j) (a.map k)).map D.tup = _
  rw [mapOE fun b => Eqk.il b μ j (by walk_at "dt")]; rfl⟩
noncomputable instance [DecidableEq α] [Eqk k n] : Eqk (kLs k) (.s n) := ⟨fun a m h => by
  obtain ⟨j, rfl⟩ : ∃ j, m = j + 1 := ⟨m - 1, by simp only [Dt.n] at h; omega⟩
  exact pds_map fun b _ => Eqk.pd b j (by walk_at "dt"), fun a b => eqvAll_map (fun a b => Eqk.eq a b) a b, fun a μ m h => by
  obtain ⟨j, rfl⟩ : ∃ j, m = j + 1 := ⟨m - 1, by simp only [Dt.n] at h; omega⟩
  show (mapO (inlE μ j) (a.map k)).map D.lst = _
  rw [mapOE fun b => Eqk.il b μ j (by walk_at "dt")]; rfl⟩
noncomputable instance : Eqk kNon .o := ⟨fun a m _ => pd_non, fun a b => rfl, fun a μ m _ => ile_z (P := fun m => inlE μ m .non = some .non) rfl (fun _ => rfl) m⟩
noncomputable instance : Eqk kT0 .o := ⟨fun a m h => by
  obtain ⟨j, rfl⟩ : ∃ j, m = j + 1 := ⟨m - 1, by simp only [Dt.n] at h; omega⟩
  exact pds_nil (k := j), fun a b => rfl, fun a μ m h => by
  obtain ⟨j, rfl⟩ : ∃ j, m = j + 1 := ⟨m - 1, by simp only [Dt.n] at h; omega⟩
  rfl⟩
theorem pds2 {m : Nat} {d : D} {ds : List D} (h : pd m d = true) (h2 : pds m ds = true) : pds m (d :: ds) = true := by rw [pds_cons, h, h2]; rfl
theorem inlE_tup {ds : List D} {j : Nat} (h : mapO (inlE μ j) ds = some ds) : inlE μ (j + 1) (.tup ds) = some (.tup ds) := by
  show (mapO (inlE μ j) ds).map D.tup = _
  rw [h]; rfl
noncomputable instance [DecidableEq α] [Eqk k n] : Eqk (kT1 k) (.s n) := ⟨fun a m h => by
  obtain ⟨j, rfl⟩ : ∃ j, m = j + 1 := ⟨m - 1, by simp only [Dt.n] at h; omega⟩
  exact pds2 (Eqk.pd a j (by walk_at "dt")) pds_nil, fun a b => by simp only [kT1, toP, toPs, PyData.eqv, PyData.eqvAll, Eqk.eq, Bool.and_true], fun a μ m h => by
  obtain ⟨j, rfl⟩ : ∃ j, m = j + 1 := ⟨m - 1, by simp only [Dt.n] at h; omega⟩
  exact inlE_tup (mapO_cons (Eqk.il a μ j (by walk_at "dt")) mapO_nil)⟩
noncomputable instance [DecidableEq α] [DecidableEq β] [Eqk k n] [Eqk l n2] : Eqk (kT2 k l) (.s (.m n n2)) := ⟨fun a m h => by
  obtain ⟨j, rfl⟩ : ∃ j, m = j + 1 := ⟨m - 1, by simp only [Dt.n] at h; omega⟩
  exact pds2 (Eqk.pd a.1 j (by walk_at "dt")) (pds2 (Eqk.pd a.2 j (by walk_at "dt")) pds_nil), fun a b => by
  obtain ⟨a1, a2⟩ := a; obtain ⟨b1, b2⟩ := b
  simp only [kT2, toP, toPs, PyData.eqv, PyData.eqvAll, Eqk.eq, Bool.and_true, Prod.mk.injEq, Bool.decide_and], fun a μ m h => by
  obtain ⟨j, rfl⟩ : ∃ j, m = j + 1 := ⟨m - 1, by simp only [Dt.n] at h; omega⟩
  exact inlE_tup (mapO_cons (Eqk.il a.1 μ j (by walk_at "dt")) (mapO_cons (Eqk.il a.2 μ j (by walk_at "dt")) mapO_nil))⟩
variable {m : δ → D}
noncomputable instance [DecidableEq α] [DecidableEq β] [DecidableEq δ] [Eqk k n] [Eqk l n2] [Eqk m n3] : Eqk (kT3 k l m) (.s (.m n (.m n2 n3))) := ⟨fun a m h => by
  obtain ⟨j, rfl⟩ : ∃ j, m = j + 1 := ⟨m - 1, by simp only [Dt.n] at h; omega⟩
  exact pds2 (Eqk.pd a.1 j (by walk_at "dt")) (pds2 (Eqk.pd a.2.1 j (by walk_at "dt")) (pds2 (Eqk.pd a.2.2 j (by walk_at "dt")) pds_nil)), fun a b => by
  obtain ⟨a1, a2, a3⟩ := a; obtain ⟨b1, b2, b3⟩ := b
  simp only [kT3, toP, toPs, PyData.eqv, PyData.eqvAll, Eqk.eq, Bool.and_true, Prod.mk.injEq, Bool.decide_and], fun a μ m h => by
  obtain ⟨j, rfl⟩ : ∃ j, m = j + 1 := ⟨m - 1, by simp only [Dt.n] at h; omega⟩
  exact inlE_tup (mapO_cons (Eqk.il a.1 μ j (by walk_at "dt")) (mapO_cons (Eqk.il a.2.1 μ j (by walk_at "dt")) (mapO_cons (Eqk.il a.2.2 μ j (by walk_at "dt")) mapO_nil)))⟩
noncomputable instance [DecidableEq α] [DecidableEq β] [DecidableEq δ] {ε : Type} [DecidableEq ε] {o : ε → D} {n4 : Dt} [Eqk k n] [Eqk l n2] [Eqk m n3] [Eqk o n4] : Eqk (kT4 k l m o) (.s (.m n (.m n2 (.m n3 n4)))) := ⟨fun a m h => by
  obtain ⟨j, rfl⟩ : ∃ j, m = j + 1 := ⟨m - 1, by simp only [Dt.n] at h; omega⟩
  exact pds2 (Eqk.pd a.1 j (by walk_at "dt")) (pds2 (Eqk.pd a.2.1 j (by walk_at "dt")) (pds2 (Eqk.pd a.2.2.1 j (by walk_at "dt")) (pds2 (Eqk.pd a.2.2.2 j (by walk_at "dt")) pds_nil))), fun a b => by
  obtain ⟨a1, a2, a3, a4⟩ := a; obtain ⟨b1, b2, b3, b4⟩ := b
  simp only [kT4, toP, toPs, PyData.eqv, PyData.eqvAll, Eqk.eq, Bool.and_true, Prod.mk.injEq, Bool.decide_and], fun a μ m h => by
  obtain ⟨j, rfl⟩ : ∃ j, m = j + 1 := ⟨m - 1, by simp only [Dt.n] at h; omega⟩
  exact inlE_tup (mapO_cons (Eqk.il a.1 μ j (by walk_at "dt")) (mapO_cons (Eqk.il a.2.1 μ j (by walk_at "dt")) (mapO_cons (Eqk.il a.2.2.1 μ j (by walk_at "dt")) (mapO_cons (Eqk.il a.2.2.2 μ j (by walk_at "dt")) mapO_nil))))⟩
noncomputable abbrev Le20 (n : Dt) : Prop := LeD n cap
theorem le20 {n : Dt} [h : Le20 n] : n.n ≤ 18 := Nat.le_trans h.le (by decide)
theorem vE_vw [DecidableEq α] [Eqk k n] [Le20 n] {a : α} (hc : ∀ a, isCl (k a) = true → ∃ ds, k a = .lst ds) (v : Vw μ d (k a)) : vE μ d = some (k a) := by
  rcases v with rfl | ⟨j, rfl, h, c⟩
  · exact vE_pd (Eqk.pd a 20 (by have := le20 (n := n); omega))
  · obtain ⟨ds, e⟩ := hc a c
    have hil := Eqk.il (k := k) a μ 19 (by have := le20 (n := n); omega)
    have hil2 := Eqk.il (k := k) a μ 20 (by have := le20 (n := n); omega)
    rw [e] at h hil2 ⊢
    unfold vE
    rw [if_neg (by simp [pd])]
    show (match μ[j]? with | some (.lst ds) => (mapO (inlE μ 19) ds).map D.lst | _ => none) = _
    rw [h]
    exact hil2
class Lsk {α : Type} (k : α → D) : Prop where
  cl : ∀ a, isCl (k a) = true → ∃ ds, k a = .lst ds
noncomputable instance : Lsk D.int := ⟨fun a h => by cases h⟩
noncomputable instance : Lsk D.str := ⟨fun a h => by cases h⟩
noncomputable instance : Lsk D.bl := ⟨fun a h => by cases h⟩
noncomputable instance : Lsk kNon := ⟨fun a h => by cases h⟩
noncomputable instance : Lsk kT0 := ⟨fun a h => by cases h⟩
noncomputable instance : Lsk (kTp k) := ⟨fun a h => by cases h⟩
noncomputable instance : Lsk (kT1 k) := ⟨fun a h => by cases h⟩
noncomputable instance : Lsk (kT2 k l) := ⟨fun a h => by cases h⟩
noncomputable instance : Lsk (kT3 k l m) := ⟨fun a h => by cases h⟩
noncomputable instance {ε : Type} {o : ε → D} : Lsk (kT4 k l m o) := ⟨fun a h => by cases h⟩
noncomputable instance : Lsk (kLs k) := ⟨fun a _ => ⟨_, rfl⟩⟩
theorem o_eq [DecidableEq α] [Eqk k n] [Le20 n] [Lsk k] : Op2T x dEq k k D.bl (fun a b => .ok (decide (a = b))) := fun a b μ d1 d2 v1 v2 => by
  show dEq d1 d2 μ = _
  unfold dEq dEqB
  rw [vE_vw Lsk.cl v1, vE_vw Lsk.cl v2]
  show Res.ok (D.bl (PyData.eqv _ _), μ) = _
  rw [Eqk.eq]
theorem o_ne [DecidableEq α] [Eqk k n] [Le20 n] [Lsk k] : Op2T x dNe k k D.bl (fun a b => .ok (!decide (a = b))) := fun a b μ d1 d2 v1 v2 => by
  show dNe d1 d2 μ = _
  unfold dNe dEqB
  rw [vE_vw Lsk.cl v1, vE_vw Lsk.cl v2]
  show Res.ok (D.bl (!PyData.eqv _ _), μ) = _
  rw [Eqk.eq]
theorem inL_map [DecidableEq α] [Eqk k n] [Le20 n] {a : α} {xs : List α} {d : D} (h : vE μ d = some (k a)) : inL d (xs.map k) μ = some (decide (a ∈ xs)) := by
  unfold inL
  rw [h]
  have : mapO (vE μ) (xs.map k) = some (xs.map k) := mapO_id fun z hz => by
    obtain ⟨b, _, rfl⟩ := List.mem_map.mp hz
    exact vE_pd (Eqk.pd b 20 (by have := le20 (n := n); omega))
  rw [this]
  show some ((xs.map k).any fun z => PyData.eqv (toP z) (toP (k a))) = _
  congr 1
  rw [List.any_map, ← Bool.decide_coe (List.any _ _)]
  congr 1
  rw [List.any_eq_true]
  simp only [Function.comp_apply, Eqk.eq, decide_eq_true_eq]
  exact propext ⟨fun ⟨b, h1, h2⟩ => h2 ▸ h1, fun h => ⟨a, h, rfl⟩⟩
theorem inB_lof {xs : List D} {a : D} (h1 : lof d μ = some xs) (n2 : ∀ z, d ≠ .str z) (n3 : ∀ z, d ≠ .tup z) : dInB a d μ = inL a xs μ := by
  unfold dInB
  split
  · exact absurd rfl (n2 _)
  · exact absurd rfl (n3 _)
  · rw [h1]
theorem o_notInL [DecidableEq α] [Eqk k n] [Le20 n] [Lsk k] : Op2T x dNotIn k (kLs k) D.bl (fun a b => .ok (!decide (a ∈ b))) := fun a b μ d1 d2 v1 v2 => by
  obtain ⟨h1, n2, n3, _, _⟩ := lof_vw v2
  show dNotIn d1 d2 μ = _
  unfold dNotIn
  rw [inB_lof h1 n2 n3, inL_map (vE_vw Lsk.cl v1)]; rfl
noncomputable def inS (a b : List Nat) : Bool := match a with
  | [c] => decide (c ∈ b)
  | a => !(Builtin.Str.occurrences (S b) (S a) 0 b.length 1).isEmpty
theorem inB_str {a b : List Nat} : dInB (.str a) (.str b) μ = some (inS a b) := by
  match a with
  | [] => rfl
  | [c] => rfl
  | _ :: _ :: _ => rfl
theorem o_inS : Op2T x dIn D.str D.str D.bl (fun a b => .ok (inS a b)) := fun a b μ d1 d2 v1 v2 => by
  rw [vs v1, vs v2]
  show ofB (dInB _ _ _) μ = _
  rw [inB_str]; rfl
class Nnk {α : Type} (k : α → D) : Prop where
  nn : ∀ a, k a ≠ .non
noncomputable instance : Nnk D.int := ⟨fun a h => by cases h⟩
noncomputable instance : Nnk D.str := ⟨fun a h => by cases h⟩
noncomputable instance : Nnk D.bl := ⟨fun a h => by cases h⟩
noncomputable instance : Nnk (kTp k) := ⟨fun a h => by cases h⟩
noncomputable instance : Nnk (kT2 k l) := ⟨fun a h => by cases h⟩
noncomputable instance : Nnk (kT3 k l m) := ⟨fun a h => by cases h⟩
noncomputable instance : Nnk (kLs k) := ⟨fun a h => by cases h⟩
noncomputable def OpMD (x : Bool) (fm : FM) (ko : α → D) (kas : A → List D) (kc : δ → D) (op : α → A → R δ) : Prop := ∀ o a μ d ds, Vw μ d (ko o) → VwL μ ds (kas a) → Sim x (op o a) (fun c => fm d ds μ = .ok (kc c, μ)) (fun y fs => fm d ds μ = .ex y fs μ)
noncomputable def IsTk (T : String) (ko : α → D) : Prop := ∀ a μ d, Vw μ d (ko a) → isT T d μ = true
theorem td_bm {γ : Sls T} {mo : M} {ms : MA} {Tn : String} {fm : FM} {ko : α → D} {kas : A → List D} {kc : δ → D} {op : α → A → R δ} {go : T → R α} {G : (β : Type) → T → (A → R β) → R β} (ho : TE x γ mo ko go) (ha : TA x γ ms kas G) (ht : IsTk Tn ko) (hp : OpMD x fm ko kas kc op) :
    TD x γ (cM Tn fm mo ms) kc (fun s => (go s).bind fun o => G δ s fun a => op o a) := fun s e μ E => by
  refine Sim.bind.mpr ((ho s e μ E).imp (fun o ⟨d, q1, v1⟩ => ?_) fun y ds q => by unfold cM; rw [q]; rfl)
  have e0 : cM Tn fm mo ms e μ = (ms e μ).bind fun y => fm d y.1 y.2 := by
    unfold cM; rw [q1]
    exact if_pos (ht o μ d v1)
  rw [e0]
  rcases ha s e μ E with ⟨a, ds, e1, v2, _, hc⟩ | ⟨y, fs, e1, hc⟩ | hc
  · rw [hc, e1]
    exact hp o a μ d ds v1 v2
  · rw [hc]; exact fun z => by rw [e1 z]; rfl
  · rw [hc]; trivial
theorem ik_str : IsTk "str" D.str := fun a μ d v => by rw [vs v]; exact isT_s
theorem seqD_vw {a : List (List Nat)} (v : Vw μ d (kLs D.str a)) : seqD d μ = some (a.map D.str) := by
  obtain ⟨h1, _, n3, _⟩ := lof_vw v
  unfold seqD
  split
  · exact absurd rfl (n3 _)
  · exact h1
theorem o_joinL : OpMD x mJoin D.str (fun a : List (List Nat) × Unit => [kLs D.str a.1]) D.str (fun o a => joinR o a.1) := fun o a μ d ds v1 v2 => by
  rw [vs v1]
  obtain ⟨d2, rfl, w2⟩ := vw1 v2
  have v2 := w2
  refine Sim.gd fun h => ?_
  show (match seqD d2 μ with | some ys => _ | none => _) = _
  rw [seqD_vw v2]
  show (match strsOf (a.1.map D.str) with | some ys => _ | none => _) = _
  rw [strsOf_map]
  exact if_pos h
theorem o_count : OpMD x mCount D.str (fun a : List Nat × Unit => [D.str a.1]) D.int (fun o a => .ok (Txt.count (S o) (S a.1))) := fun o a μ d ds v1 v2 => by
  rw [vs v1]
  obtain ⟨d2, rfl, w2⟩ := vw1 v2
  have v2 := w2
  rw [vs v2]; exact rfl
theorem ct_lst : CellT "list" (kLs k) := fun c μ n h => isT_r h
theorem o_appendD : OpMD1 x mAppend (kLs k) (fun a : α × Unit => [k a.1]) (fun c a => appR c a.1) := fun c a μ n h => by
  refine Sim.gd fun hl => ⟨.non, ?_⟩
  rw [m_append, h]
  show kApp (some (.lst (c.map k))) n _ μ = _
  rw [kApp1 (by simpa using hl)]
  show _ = Res.ok (D.non, μ.set n (.lst ((c ++ [a.1]).map k)))
  rw [List.map_append]; rfl
section
variable {γ : Sls T} {ma mb mc : M} {ta tb : MT} {va vb vc : T → Bool} {α β δ : Type} {ka : α → D} {kb : β → D} {kc : δ → D}
theorem tt_andP (va vb : T → Bool) (h : TT x γ ta (fun s => .ok (va s))) (k : TT x γ tb (fun s => .ok (vb s))) : TT x γ (tAndD ta tb) (fun s => .ok (va s && vb s)) := fun s e μ E => by
  have := tt_and h k s e μ E
  revert this
  show Sim x (if va s = true then R.ok (vb s) else .ok false) _ _ → Sim x (R.ok (va s && vb s)) _ _
  cases va s <;> exact id
end
end
end Lr
namespace Lr
open PySem L2
end Lr
namespace Lr
open PySem L2
end Lr
namespace Lr
theorem forR_eq {X L M ρ : Type} {xs : List X} {l : L} {b : L → X → R (Fl L L ρ)} : forR (M := M) xs l b = R.gd (xs.length ≤ lineN) (forL b xs l) := rfl
theorem lcR_eq {X β : Type} {xs : List X} {t : X → R Bool} {b : X → R β} : lcR xs t b = R.gd (xs.length ≤ lineN) (lcL t b xs) := rfl
end Lr
namespace Lr
local macro_rules | `(tactic| walk_at "dt") => `(tactic| ((try simp only [Dt.n] at *); omega))
end Lr
namespace Lr
open PySem L2
section
variable {t : Ct} {G H : Hp} {ρ : List Addr}
end
section
variable {nm : Nm} {X : Cx} {W : XW} {a b : Expr} {pos p tpos : Pos} {ms : MA} {elts : List Expr} {kk : Nat}
end
end Lr
namespace Lr
open PySem L2
noncomputable def R.finI {N L ρ : Type} (r : R (Fl N L ρ)) : R N := r.bind fun o => match o with
  | .nx n => .ok n
  | _ => .no
section
variable {S α N L ρ A O V : Type} {x : Bool} {γ : Sls S} {Qn : S → N → Ev → Mu → Prop} {Ql : S → L → Ev → Mu → Prop} {Qr : ρ → D → Mu → Prop} {Qx : S → Ev → Mu → Prop} {r m : SM} {ma : M}
end
end Lr
namespace Lr
open PySem L2
end Lr
namespace Lr
open PySem L2
@[irreducible] noncomputable def R.Ok {α : Type} (r : R α) (P : α → Prop) : Prop := match r with
  | .ok a => P a
  | _ => False
noncomputable def fn {N L ρ : Type} (P : ρ → Prop) : Fl N L ρ → Prop
  | .rt r => P r
  | _ => False
noncomputable def fnU {N L : Type} (P : Unit → Prop) : Fl N L Unit → Prop
  | .rt r => P r
  | .nx _ => P ()
  | _ => False
noncomputable def fnI {N L ρ : Type} (P : N → Prop) : Fl N L ρ → Prop
  | .nx r => P r
  | _ => False
noncomputable def sq {Y N L ρ : Type} (f : Y → R (Fl N L ρ)) (P : Fl N L ρ → Prop) : Fl Y L ρ → Prop
  | .nx y => (f y).Ok P
  | .bk l => P (.bk l)
  | .ct l => P (.ct l)
  | .rt r => P (.rt r)
noncomputable def lp {L M ρ : Type} (I : L → Prop) (P : Fl L M ρ → Prop) : Fl L L ρ → Prop
  | .nx l => I l
  | .ct l => I l
  | .bk l => P (.nx l)
  | .rt r => P (.rt r)
section
variable {α β Y N L M ρ X : Type}
theorem ok_ok {a : α} {P : α → Prop} : R.Ok (.ok a) P = P a := by unfold R.Ok; rfl
theorem ok_no {P : α → Prop} : R.Ok .no P = False := by unfold R.Ok; rfl
theorem ok_ex {P : α → Prop} {c : Nat} {ds : List D} : R.Ok (.ex c ds) P = False := by unfold R.Ok; rfl
theorem ok_bind {r : R α} {f : α → R β} {P : β → Prop} : R.Ok (r.bind f) P = r.Ok fun a => (f a).Ok P := by unfold R.Ok; cases r <;> rfl
theorem ok_ne {r : R α} {P : α → Prop} : R.Ok r.ne P = r.Ok P := by unfold R.Ok; cases r <;> rfl
theorem ok_gd {p : Prop} [Decidable p] {r : R α} {P : α → Prop} : R.Ok (R.gd p r) P = (p ∧ r.Ok P) := by
  unfold R.gd
  split
  · rename_i h; simp [h]
  · rename_i h; simp only [h, false_and, ok_no]
theorem ok_seq {r : R (Fl Y L ρ)} {f : Y → R (Fl N L ρ)} {P : Fl N L ρ → Prop} : R.Ok (R.seq r f) P = r.Ok (sq f P) := by
  cases r with
  | ok o => cases o <;> (rw [ok_ok]; first | rfl | (unfold R.Ok; rfl))
  | ex => exact ok_ex.trans ok_ex.symm
  | no => exact ok_no.trans ok_no.symm
theorem ok_fin {r : R (Fl N L ρ)} {P : ρ → Prop} : R.Ok (R.fin r) P = r.Ok (fn P) := by
  cases r with
  | ok o => cases o <;> (rw [ok_ok]; first | rfl | (unfold R.Ok; rfl))
  | ex => exact ok_ex.trans ok_ex.symm
  | no => exact ok_no.trans ok_no.symm
theorem ok_finU {r : R (Fl N L Unit)} {P : Unit → Prop} : R.Ok (R.finU r) P = r.Ok (fnU P) := by
  cases r with
  | ok o => cases o <;> (rw [ok_ok]; first | rfl | (unfold R.Ok; rfl))
  | ex => exact ok_ex.trans ok_ex.symm
  | no => exact ok_no.trans ok_no.symm
theorem ok_finI {r : R (Fl N L ρ)} {P : N → Prop} : R.Ok (R.finI r) P = r.Ok (fnI P) := by
  cases r with
  | ok o => cases o <;> (rw [ok_ok]; first | rfl | (unfold R.Ok; rfl))
  | ex => exact ok_ex.trans ok_ex.symm
  | no => exact ok_no.trans ok_no.symm
theorem fn_rt {P : ρ → Prop} {r : ρ} : fn (N := N) (L := L) P (.rt r) = P r := id rfl
theorem fnU_rt {P : Unit → Prop} {r : Unit} : fnU (N := N) (L := L) P (.rt r) = P r := id rfl
theorem fnU_nx {P : Unit → Prop} {r : N} : fnU (L := L) P (.nx r) = P () := id rfl
theorem fnI_nx {P : N → Prop} {r : N} : fnI (L := L) (ρ := ρ) P (.nx r) = P r := id rfl
theorem sq_nx {f : Y → R (Fl N L ρ)} {P : Fl N L ρ → Prop} {y : Y} : sq f P (.nx y) = (f y).Ok P := id rfl
theorem sq_rt {f : Y → R (Fl N L ρ)} {P : Fl N L ρ → Prop} {y : ρ} : sq f P (.rt y) = P (.rt y) := id rfl
theorem sq_bk {f : Y → R (Fl N L ρ)} {P : Fl N L ρ → Prop} {y : L} : sq f P (.bk y) = P (.bk y) := id rfl
theorem sq_ct {f : Y → R (Fl N L ρ)} {P : Fl N L ρ → Prop} {y : L} : sq f P (.ct y) = P (.ct y) := id rfl
theorem lp_nx {I : L → Prop} {P : Fl L M ρ → Prop} {y : L} : lp I P (.nx y) = I y := id rfl
theorem lp_ct {I : L → Prop} {P : Fl L M ρ → Prop} {y : L} : lp I P (.ct y) = I y := id rfl
theorem lp_bk {I : L → Prop} {P : Fl L M ρ → Prop} {y : L} : lp I P (.bk y) = P (.nx y) := id rfl
theorem lp_rt {I : L → Prop} {P : Fl L M ρ → Prop} {y : ρ} : lp I P (.rt y) = P (.rt y) := id rfl
theorem R.Ok.get {r : R α} {P : α → Prop} (h : r.Ok P) : ∃ a, r = .ok a ∧ P a := by
  unfold R.Ok at h
  cases r with
  | ok x => exact ⟨x, rfl, h⟩
  | ex => exact h.elim
  | no => exact h.elim
theorem ok_of {r : R α} {a : α} {P : α → Prop} (h : r = .ok a) (p : P a) : r.Ok P := by rw [h, ok_ok]; exact p
theorem R.Ok.imp {r : R α} {P Q : α → Prop} (h : r.Ok P) (a : ∀ x, P x → Q x) : r.Ok Q := by
  obtain ⟨x, e, p⟩ := h.get
  exact ok_of e (a x p)
theorem R.Ok.eq {r : R α} {a : α} (h : r.Ok fun x => x = a) : r = .ok a := by
  obtain ⟨x, e, p⟩ := h.get
  rw [e, p]
theorem R.Ok.and {r : R α} {P Q : α → Prop} (h : r.Ok P) (h2 : r.Ok Q) : r.Ok fun a => P a ∧ Q a := by
  obtain ⟨x, e, p⟩ := h.get
  obtain ⟨y, e2, p2⟩ := h2.get
  rw [e] at e2
  cases e2
  exact ok_of e ⟨p, p2⟩
theorem at_eq {xs : List α} {i : Int} {n : Nat} {a : α} (hi : i = (n : Int)) (h : xs[n]? = some a) : atR xs i = .ok a := by
  subst hi
  obtain ⟨hn, e⟩ := List.getElem?_eq_some_iff.mp h
  unfold atR
  rw [atI_pos (by omega) (by omega), show ((n : Int)).toNat = n by omega, h]
theorem at_ok {xs : List α} {i : Int} {P : α → Prop} (h0 : 0 ≤ i) (h1 : i < (xs.length : Nat)) (h : ∀ a, xs[i.toNat]? = some a → P a) : (atR xs i).Ok P := by
  have hn : i.toNat < xs.length := by omega
  exact ok_of (at_eq (n := i.toNat) (by omega) (List.getElem?_eq_getElem hn)) (h _ (List.getElem?_eq_getElem hn))
theorem for_go {b : L → X → R (Fl L L ρ)} {P : Fl L M ρ → Prop} {xs : List X} (I : Nat → L → Prop) (hb : ∀ k x l, xs[k]? = some x → I k l → (b l x).Ok (lp (I (k + 1)) P)) (he : ∀ l, I xs.length l → P (.nx l)) :
    ∀ (ys : List X) (k : Nat) (l : L), xs.drop k = ys → k ≤ xs.length → I k l → (forL b ys l : R (Fl L M ρ)).Ok P
  | [], k, l, h, hk, i => by
    have : xs.length ≤ k := List.drop_eq_nil_iff.mp h
    exact ok_of rfl (he l ((show k = xs.length by omega) ▸ i))
  | x :: r, k, l, h, hk, i => by
    have hx : xs[k]? = some x := by
      have : (xs.drop k)[0]? = some x := by rw [h]; rfl
      rwa [List.getElem?_drop] at this
    have hr : xs.drop (k + 1) = r := by rw [← List.drop_drop, h]; rfl
    have hk1 : k + 1 ≤ xs.length := by
      have := (List.getElem?_eq_some_iff.mp hx).1; omega
    have q := hb k x l hx i
    unfold forL
    rw [ok_bind]
    refine q.imp fun o ho => ?_
    cases o with
    | nx l' => exact for_go I hb he r (k + 1) l' hr hk1 ho
    | ct l' => exact for_go I hb he r (k + 1) l' hr hk1 ho
    | bk l' => exact ok_of rfl ho
    | rt r => exact ok_of rfl ho
theorem ok_for {b : L → X → R (Fl L L ρ)} {P : Fl L M ρ → Prop} {xs : List X} {l : L} (I : Nat → L → Prop) (hn : xs.length ≤ lineN) (h0 : I 0 l) (hb : ∀ k x l, xs[k]? = some x → I k l → (b l x).Ok (lp (I (k + 1)) P)) (he : ∀ l, I xs.length l → P (.nx l)) :
    (forR xs l b : R (Fl L M ρ)).Ok P := by
  rw [forR_eq, ok_gd]
  exact ⟨hn, for_go I hb he xs 0 l rfl (Nat.zero_le _) h0⟩
theorem lc_map {t : X → R Bool} {b : X → R β} {g : X → β} : ∀ {xs : List X}, (∀ x ∈ xs, t x = .ok true) → (∀ x ∈ xs, b x = .ok (g x)) → lcL t b xs = .ok (xs.map g)
  | [], _, _ => rfl
  | x :: r, ht, hb => by
    unfold lcL
    rw [ht x List.mem_cons_self, hb x List.mem_cons_self]
    simp only [R.ne, R.bind_ok, if_true]
    rw [lc_map (fun y hy => ht y (List.mem_cons_of_mem _ hy)) fun y hy => hb y (List.mem_cons_of_mem _ hy)]
    rfl
theorem lcR_map {t : X → R Bool} {b : X → R β} (g : X → β) {xs : List X} (hn : xs.length ≤ lineN) (ht : ∀ x ∈ xs, t x = .ok true) (hb : ∀ x ∈ xs, b x = .ok (g x)) : lcR xs t b = .ok (xs.map g) := by
  rw [lcR_eq, R.gd_t hn]; exact lc_map ht hb
theorem rgZ_get {i : Int} {n k : Nat} (h : k < n) : (rgZ i n)[k]? = some (i + k) := by unfold rgZ; rw [List.getElem?_map, List.getElem?_range h]; rfl
theorem rgZ_inv {i x : Int} {n k : Nat} (h : (rgZ i n)[k]? = some x) : k < n ∧ x = i + k := by
  have hk : k < n := by have := (List.getElem?_eq_some_iff.mp h).1; rwa [rgZ_len] at this
  rw [rgZ_get hk] at h
  exact ⟨hk, (Option.some.inj h).symm⟩
theorem okMul_r {i j : Int} (h : -1000000 < j ∧ j < 1000000) : okMul i j := .inr (.inl ⟨by omega, by omega⟩)
end
section
variable {α : Type}
theorem ok_imul {a b : Int} {P : Int → Prop} : (imulR a b).Ok P = (okMul a b ∧ P (a * b)) := by
  unfold imulR
  rw [ok_gd, ok_ok]
theorem ok_idiv {a b : Int} {P : Int → Prop} : (idivR a b).Ok P = (okDiv b ∧ P (a / b)) := by
  unfold idivR
  rw [ok_gd, ok_ok]
theorem ok_imod {a b : Int} {P : Int → Prop} : (imodR a b).Ok P = (0 < b ∧ P (a % b)) := by
  unfold imodR
  rw [ok_gd, ok_ok]
theorem ok_add {a b : List α} {P : List α → Prop} : (addR a b).Ok P = (a.length + b.length ≤ lineN ∧ P (a ++ b)) := by
  unfold addR
  rw [ok_gd, ok_ok]
theorem ok_app {a : List α} {b : α} {P : List α → Prop} : (appR a b).Ok P = (a.length < lineN ∧ P (a ++ [b])) := by
  unfold appR
  rw [ok_gd, ok_ok]
theorem ok_mul {a : List α} {b : Int} {P : List α → Prop} : (mulR a b).Ok P = ((-(2 ^ 63) ≤ b ∧ b < 2 ^ 63 ∧ a.length * b.toNat ≤ lineN) ∧ P (repL a b)) := by
  unfold mulR
  rw [ok_gd, ok_ok]
theorem ok_rg1 {a : Int} {P : List Int → Prop} : (rg1 a).Ok P = (okR a ∧ P (rgZ 0 a.toNat)) := by
  unfold rg1
  rw [ok_gd, ok_ok]
theorem ok_rg2 {a b : Int} {P : List Int → Prop} : (rg2 a b).Ok P = ((okR a ∧ okR b) ∧ P (rgZ a (b - a).toNat)) := by
  unfold rg2
  rw [ok_gd, ok_ok]
theorem ok_join {a : List Nat} {b : List (List Nat)} {P : List Nat → Prop} : (joinR a b).Ok P = ((b.map List.length).sum + b.length * a.length ≤ lineN ∧ P (joinL a b)) := by
  unfold joinR
  rw [ok_gd, ok_ok]
theorem ok_low {a : List Nat} {P : List Nat → Prop} : (lowR a).Ok P = (lowOk a ∧ P (a.map loC)) := by
  unfold lowR
  rw [ok_gd, ok_ok]
theorem ok_upp {a : List Nat} {P : List Nat → Prop} : (uppR a).Ok P = (lowOk a ∧ P (a.map upC)) := by
  unfold uppR
  rw [ok_gd, ok_ok]
theorem okR_s {i : Int} (h : -1000000000 ≤ i ∧ i ≤ 1000000000) : okR i := ⟨by omega, by omega⟩
local macro_rules | `(tactic| walk_at "w") => `(tactic| simp only [ok_bind, ok_ok, ok_gd, ok_ne, ok_fin, ok_finU, ok_finI, ok_seq, fn_rt, fnU_rt, fnU_nx, fnI_nx, sq_nx, sq_rt, sq_bk, sq_ct, lp_nx, lp_rt, lp_bk, lp_ct, ok_imul, ok_idiv, ok_imod, ok_add, ok_app, ok_mul, ok_rg1, ok_rg2, ok_join, ok_low, ok_upp, R.bind_ok, Bool.true_and, Bool.not_true, Bool.not_false, if_true, if_false, Bool.false_eq_true, Bool.or_true, Bool.true_or, Bool.false_or])
end
end Lr
namespace Lr
open PySem L2 PySem.Spec
open PyProof.Rows hiding St
section
variable {nm : Nm} {X : Cx} {W : XW}
end
section
variable {α β T : Type} {k : α → D} {l : β → D} {x : Bool} {n2 : Dt}
class Kk {α : Type} [DecidableEq α] (k : α → D) : Prop where
  isk : ∀ a, isK (k a) = true
  eq : ∀ a b, kEq (k a) (k b) = decide (a = b)
  cl : ∀ a, isCl (k a) = false
noncomputable instance : Kk D.int := ⟨fun _ => rfl, fun _ _ => rfl, fun _ => rfl⟩
noncomputable instance : Kk D.str := ⟨fun _ => rfl, fun _ _ => rfl, fun _ => rfl⟩
class Ncl {α : Type} (k : α → D) : Prop where
  cl : ∀ a, isCl (k a) = false
noncomputable instance : Ncl D.int := ⟨fun _ => rfl⟩
noncomputable instance : Ncl D.str := ⟨fun _ => rfl⟩
noncomputable instance : Ncl D.bl := ⟨fun _ => rfl⟩
end
section
variable {α : Type} {k : α → D} {x : Bool} {n : Dt}
noncomputable def inLk [DecidableEq α] (a : α) (b : List α) : Bool := decide (a ∈ b)
theorem o_notInLk [DecidableEq α] [Eqk k n] [Le20 n] [Lsk k] : Op2T x dNotIn k (kLs k) D.bl (fun a b => .ok (!inLk a b)) := o_notInL
end
end Lr
namespace Lr
open PySem L2 PySem.Spec
open PyProof.Rows hiding St
section
variable {nm : Nm} {X : Cx} {W : XW}
end
end Lr
namespace Lr
open PySem L2
section
variable {t : Ct} {G Gc G' H H' : Hp} {ρ ρ' : List Addr} {env env' : Ev} {μ μ' : Mu} {σ σ' : St} {a : Addr} {n p : Nat}
end
section
variable {nm : Nm} {X : Cx} {W : XW} {n p : Nat} {F : GF}
end
end Lr
namespace Lr
open PySem L2
section
variable {nm : Nm} {X : Cx} {W : XW} {e : Expr} {es : List Expr} {pos p : Pos} {ms : MA} {k j n i : Nat} {F : GF} {x : Str}
end
end Lr
namespace Lr
open PySem L2
section
variable {α : Type}
end
section
variable {S C α β ρ N L A : Type} {γ : Sls S} {u : S → C → S}
noncomputable def TS (γ : Sls S) (u : S → C → S) (m : M) (k : α → D) (g : S → R (α × C)) : Prop := ∀ s e μ, Enc γ s e μ → Sim false (g s) (fun r => ∃ μ', m e μ = .ok (k r.1, μ') ∧ Enc γ (u s r.2) e μ') (fun _ _ => True)
noncomputable def TP (γ : Sls S) (ms : MA) (ka : A → List D) (ga : S → R A) : Prop := ∀ s e μ, Enc γ s e μ → Sim false (ga s) (fun a => ms e μ = .ok (ka a, μ)) (fun _ _ => True)
noncomputable def SlEq (s s' : S) : Sl S → Prop
  | .un => True
  | .val f => f s = f s'
  | .cel _ f => f s = f s'
noncomputable def EqS (s s' : S) : Sls S → Prop
  | [] => True
  | x :: r => SlEq s s' x ∧ EqS s s' r
theorem EqS.at {s s' : S} : ∀ {γ : Sls S} (i : Nat), EqS s s' γ → SlEq s s' (nth γ i)
  | [], _, _ => trivial
  | _ :: _, 0, h => h.1
  | _ :: r, i + 1, h => EqS.at (γ := r) i h.2
theorem Enc.to {s s' : S} {e : Ev} {μ : Mu} (h : Enc γ s e μ) (w : EqS s s' γ) : Enc γ s' e μ := ⟨h.len, fun i => by
  have a := h.ok i
  have b := w.at i
  revert a b
  cases nth γ i with
  | un => exact fun _ _ => trivial
  | val f =>
    intro a b
    exact a.trans (congrArg (fun d => some (some d)) b)
  | cel o f =>
    intro a b
    cases o with
    | none => obtain ⟨n, h1, h2⟩ := a; exact ⟨n, h1, by rw [h2]; exact congrArg some b⟩
    | some n => exact ⟨a.1, by rw [a.2]; exact congrArg some b⟩, h.dj⟩
end
end Lr
namespace Lr
open PySem L2
section
variable {S α β ρ A X Y Cc : Type} {γ : Sls S} {kc : Cc → D} {j : Nat} {fc : S → List Cc} {o : Option Nat} {u : S → List Cc → S}
end
end Lr
namespace Lr
open PySem L2
open PyProof.Rows (envOfC)
section
variable {P : Program} {w : World} {K : PySem.W.Frag} {mg : Str → Option Value} {base : Heap} {nm : Nm}
theorem okG {CX : CXT} {x qual : Str} {st : Stmt} {f : Addr} {fd : FuncData} {N ps : List Str} {k : Nat} {sp : Sp} (F : Fun K x qual st f fd) (S : FnScope N ps (defScope st)) (len : ∀ vs H Q E, sp vs H Q E → vs.length = ps.length)
    (hbody : ∀ (cdv : Value) (A : Around) (outer : List Env) (s : Shared) (H : Hp) (vs : List V) (Q : VK) (E : XK), Room k (A.deeper (envOfC qual (defScope st) s.heap.objs.size f cdv)) → sp vs H Q E →
      ∃ t, PSs (cxOf CX P w K mg base N qual (defScope st) f cdv A outer s H E) (defBody st) t ∧ t { nx := fun _ H' => Q .non H', rt := Q } (start N vs) H) : FnOk P w K mg base CX (k + 1) f fd ps sp := by
  obtain ⟨oc, od, kV, doc, pm, an, cdv, ct, osl, rfl, lk, hcd⟩ := F.ex
  exact fn_of lk hcd S len fun A outer s H vs Q E hr hsp => hbody cdv A outer s H vs Q E hr hsp
theorem fn_genX {x qual : Str} {st : Stmt} {f : Addr} {fd : FuncData} {N ps : List Str} {k : Nat} {m : SM} (F : Fun K x qual st f fd) (S : FnScope N ps (defScope st)) (hl : ps.length ≤ N.length)
    (hb : ∀ (cdv : Value) (A : Around) (outer : List Env) (s : Shared) (H : Hp) (E : XK), Room k (A.deeper (envOfC qual (defScope st) s.heap.objs.size f cdv)) →
      BV nm (cxOf (L2N.CX P w) P w K mg base N qual (defScope st) f cdv A outer s H E) (fun cls d _ H => E cls d H) (defBody st) m) :
    FnOk P w K mg base (L2N.CX P w) (k + 1) f fd ps (spG ⟨K, mg, nm, w⟩ ps.length (bodyF N.length m)) := by
  refine okG F S (fun vs H Q E h => ?_) (fun cdv A outer s H vs Q E hr h => ?_)
  · obtain ⟨G, ρ, μ, ds, hn, _, r, _⟩ := h
    rw [r.length, hn]
  · obtain ⟨G, ρ, μ, ds, hn, R, r, h⟩ := h
    refine ⟨_, pss_wp, (hb cdv A outer s H E hr).run _ μ _ H ρ G _ (rel_start (N := N) R r (by omega)) ?_⟩
    unfold bodyF at h
    cases q : m (ds.map some ++ List.replicate (N.length - ds.length) none) μ with
    | none => rw [q] at h; exact h
    | some o =>
      rw [q] at h
      cases o with
      | rt d μ' => exact fun v H' ρ' G' x R r => h v H' ρ' G' x R r
      | nx e μ' => exact fun σ' H' ρ' G' x R => h .non H' ρ' G' x R.bare rfl
      | bk e μ' => exact h.elim
      | ct e μ' => exact h.elim
      | xc c fs e μ' => exact fun C dx σ' H' ρ' G' mm x R xf => h C dx H' ρ' G' mm x R.bare xf
end
noncomputable def CallOkX (nm : Nm) (X : Cx) (W : XW) (n : Nat) (F : GF) (f : FN) : Prop := ∀ env μ σ H ρ G Q ds vs, Rel (ct nm X) G ρ env μ σ H → reps (ct nm X) G ρ ds vs → ds.length = n →
  Po (f ds μ) (KE (ct nm X) env σ G ρ H Q) (KX (ct nm X) W env σ G ρ H) → spG (ct nm X) n F vs H Q (WE W σ)
section
variable {nm : Nm} {X : Cx} {W : XW} {n k : Nat} {F : GF} {e : Expr} {es : List Expr} {pos p : Pos} {ms : MA} {f : Addr} {fd : FuncData} {ps : List Str} {fn : FN} {x : Str}
theorem ev_callX (Fk : FnOk X.prog X.w X.K X.mg X.base (L2N.CX X.prog X.w) k f fd ps (spG (ct nm X) n F)) (hc : CallOkX nm X W n F fn) (tk : L2N.Takes X W) (hr : Room k X.A) (hm : X.mg x = some (.ref f)) (hk : PySem.W.keepIn X.K (.ref f) = true) (hb : Binds X.K fd ps []) (ha : AV nm X W (e :: es) ms) (hn : es.length + 1 = n := by rfl)
    (hg : Gl X x := by rfl) (hdb : (x == ("__debug__" : Str)) = false := by decide) (he : starEach (e :: es) X.env = (false, eval e X.env) :: starEach es X.env := by rfl) (hpl : (backTo pos (starEach es X.env)).any (·.1) = false := by rfl) :
    EV nm X W (.Call (.Name x p) (e :: es) [] pos) (cF fn ms) :=
  ev_of (pe_callS (E := WE W) Fk hr hg hm hk hb (L2N.passAt tk) pa_wp hdb he hpl) fun env μ σ H ρ G Q R P => by
  unfold cF at P
  cases h : ms env μ with
  | ok y =>
    have hl := ha.len env μ y h
    rw [h] at P
    refine ha.run env μ σ H ρ G _ R ?_
    rw [h]
    intro vs H1 ρ1 G1 e1 R1 r1
    exact hc env y.2 σ H1 ρ1 G1 Q y.1 vs R1 r1 (by rw [hl]; exact hn) (Po.reE e1 P)
  | ex c ds μ' =>
    rw [h] at P
    refine ha.run env μ σ H ρ G _ R ?_
    rw [h]
    exact P
  | no =>
    rw [h] at P
    exact P.elim
end
end Lr
namespace Lr
open PySem L2
end Lr
namespace Lr
open PySem L2
open PyProof.Rows (envOfC)
noncomputable def DefOkX (P : Program) (w : World) (K : PySem.W.Frag) (mg : Str → Option Value) (base : Heap) (nm : Nm) (x : Str) (k n : Nat) (F : GF) : Prop :=
  ∃ f fd ps, FnOk P w K mg base (L2N.CX P w) k f fd ps (spG ⟨K, mg, nm, w⟩ n F) ∧ mg x = some (.ref f) ∧ PySem.W.keepIn K (.ref f) = true ∧ Binds K fd ps []
section
variable {P : Program} {w : World} {K : PySem.W.Frag} {mg : Str → Option Value} {base : Heap} {nm : Nm} {x m qual : Str} {st : Stmt} {N ps : List Str} {k : Nat} {sm : SM} {C : Addr}
noncomputable abbrev BdX (P : Program) (w : World) (K : PySem.W.Frag) (mg : Str → Option Value) (base : Heap) (nm : Nm) (N : List Str) (qual : Str) (st : Stmt) (k : Nat) (sm : SM) : Prop :=
  ∀ (f : Addr) (cdv : Value) (A : Around) (outer : List Env) (s : Shared) (H : Hp) (E : XK), Room k (A.deeper (envOfC qual (defScope st) s.heap.objs.size f cdv)) →
      BV nm (cxOf (L2N.CX P w) P w K mg base N qual (defScope st) f cdv A outer s H E) (fun cls d _ H => E cls d H) (defBody st) sm
theorem def_okX (S : DefSrc K mg x st) (sc : FnScope N ps (defScope st)) (hl : ps.length ≤ N.length) (bi : Bi st x x ps) (hb : BdX P w K mg base nm N x st k sm) : DefOkX P w K mg base nm x (k + 1) ps.length (bodyF N.length sm) := by
  obtain ⟨f, fd, F, hm⟩ := S
  exact ⟨f, fd, ps, fn_genX F sc hl (hb f), hm, F.kp, F.binds bi⟩
theorem takes_cx {scope : Scope} {f : Addr} {cdv : Value} {A : Around} {outer : List Env} {s : Shared} {H : Hp} {E : XK} : L2N.Takes (cxOf (L2N.CX P w) P w K mg base N qual scope f cdv A outer s H E) (fun cls d _ H => E cls d H) := L2N.takes_of rfl rfl rfl rfl
end
section
variable {nm : Nm} {X : Cx} {W : XW} {e : Expr} {es : List Expr} {pos p : Pos} {ms : MA} {k j n : Nat} {F : GF} {x : Str}
end
end Lr
namespace Lr
open PySem L2
structure Lk (G G' : Hp) : Prop where
  oth : ∀ b o, G b = some o → (∀ ks, o ≠ .dK ks) → (∀ q ks, o ≠ .frz q (.dK ks)) → G' b = some o
  dk : ∀ b ks, Rd G b (.dK ks) → Rd G' b (.dK ks)
theorem Lk.sq {K : PySem.W.Frag} {G G' : Hp} {a : Addr} {xs : List V} (l : Lk G G') (h : SqL K G a xs) : SqL K G' a xs := by
  rcases h with (h | ⟨o, h⟩) | h
  · exact .inl (.inl (l.oth _ _ h (fun _ z => nomatch z) fun _ _ z => nomatch z))
  · exact .inl (.inr ⟨o, l.oth _ _ h (fun _ z => nomatch z) fun _ _ z => nomatch z⟩)
  · exact .inr h
section
variable {t : Ct} {G G' : Hp} {ρ : List Addr} (l : Lk G G')
include l
mutual
theorem rep.lk : ∀ (d : D) (v : V), rep t G ρ d v → rep t G' ρ d v
  | .non, _, h => h
  | .bl _, _, h => h
  | .int _, _, h => h
  | .str _, _, h => h
  | .tup ds, _, ⟨a, vs, e, q, r⟩ => ⟨a, vs, e, l.oth _ _ q (fun _ z => nomatch z) (fun _ _ z => nomatch z), reps.lk ds vs r⟩
  | .lst ds, _, ⟨a, vs, e, q, r⟩ => ⟨a, vs, e, l.oth _ _ q (fun _ z => nomatch z) (fun _ _ z => nomatch z), reps.lk ds vs r⟩
  | .scr ds, _, ⟨a, vs, e, q, r⟩ => ⟨a, vs, e, l.sq q, reps.lk ds vs r⟩
  | .dic kvs, _, ⟨a, ks, e, q, r⟩ => ⟨a, ks, e, l.dk _ _ q, repk.lk kvs ks r⟩
  | .dit kvs, _, ⟨a, ks, e, q, r⟩ => ⟨a, ks, e, l.oth _ _ q (fun _ z => nomatch z) (fun _ _ z => nomatch z), repkT.lk kvs ks r⟩
  | .obj c ds, _, ⟨a, C, dx, vs, e, hm, q, n, r⟩ => ⟨a, C, dx, vs, e, hm, l.oth _ _ q (fun _ z => nomatch z) (fun _ _ z => nomatch z), n, reps.lk ds vs r⟩
  | .ref n, _, ⟨a, e, q⟩ => ⟨a, e, q⟩
  | .din _, _, h => h
  | .tpz ds, _, ⟨a, vs, e, ⟨o, q, q2⟩, r⟩ => ⟨a, vs, e, ⟨o, l.oth _ _ q (fun _ z => nomatch z) (fun _ _ z => nomatch z), q2⟩, reps.lk ds vs r⟩
  | .exc c ds, _, ⟨a, C, dx, e, m, q, r⟩ => ⟨a, C, dx, e, m, l.oth _ _ q (fun _ z => by unfold ExV at z; cases z) (fun _ _ z => by unfold ExV at z; cases z), r.imp id fun ⟨d, vs, e1, e2, n, r⟩ => ⟨d, vs, e1, l.oth _ _ e2 (fun _ z => nomatch z) (fun _ _ z => nomatch z), n, reps.lk ds vs r⟩⟩
theorem reps.lk : ∀ (ds : List D) (vs : List V), reps t G ρ ds vs → reps t G' ρ ds vs
  | [], _, h => h
  | d :: ds, _, ⟨v, r, e, h1, h2⟩ => ⟨v, r, e, rep.lk d v h1, reps.lk ds r h2⟩
theorem repk.lk : ∀ (ds : List (D × D)) (vs : List (Key × V)), repk t G ρ ds vs → repk t G' ρ ds vs
  | [], _, h => h
  | (k, d) :: ds, _, ⟨k', v, r, e, hk, h1, h2⟩ => ⟨k', v, r, e, hk, rep.lk d v h1, repk.lk ds r h2⟩
theorem repkT.lk : ∀ (ds : List (D × D)) (vs : List (List Key × V)), repkT t G ρ ds vs → repkT t G' ρ ds vs
  | [], _, h => h
  | (k, d) :: ds, _, ⟨k', v, r, e, hk, h1, h2⟩ => ⟨k', v, r, e, hk, rep.lk d v h1, repkT.lk ds r h2⟩
end
theorem repn.lk : ∀ (ds : List (D × D)) (xs : List NE), repn t G ρ ds xs → repn t G' ρ ds xs
  | [], _, h => h
  | (k, d) :: ds, _, ⟨nk, b, v, r, e, hk, hd, h0, h1, h2⟩ => ⟨nk, b, v, r, e, hk, hd, rep.lk l k _ h0, rep.lk l d v h1, repn.lk ds r h2⟩
theorem cell.lk {H H' : Hp} {a : Addr} (hH : H' a = H a) : ∀ {d : D}, cell t G ρ H a d → cell t G' ρ H' a d
  | .lst ds, ⟨vs, e, r⟩ => ⟨vs, by rw [hH]; exact e, reps.lk l _ _ r⟩
  | .dic kvs, ⟨ks, e, r⟩ => ⟨ks, by rw [hH]; exact e, repk.lk l _ _ r⟩
  | .dit kvs, ⟨ks, e, r⟩ => ⟨ks, by rw [hH]; exact e, repkT.lk l _ _ r⟩
  | .obj c ds, ⟨C, dx, vs, m, e, n, r⟩ => ⟨C, dx, vs, m, by rw [hH]; exact e, n, reps.lk l _ _ r⟩
  | .din kvs, ⟨xs, e, n, z1, z2, r⟩ => ⟨xs, by rw [hH]; exact e, n, z1, z2, repn.lk l _ _ r⟩
end
section
variable {t : Ct} {G H : Hp} {ρ : List Addr} {env : Ev} {μ : Mu} {σ : St} {a : Addr} {ks : List (Key × V)} {o u : HO}
theorem Rel.lk (R : Rel t G ρ env μ σ H) (h : G a = some o) (l : Lk G (upd G a u)) (n1 : ∀ ps, o ≠ .tbl ps) (n2 : ∀ c q, o ≠ LamX.CodeO c q) (n3 : ∀ C dx, o ≠ ExV a C dx) : Rel t (upd G a u) ρ env μ σ (upd H a u) := by
  have na : ∀ b ∈ ρ, b ≠ a := fun b hb z => by
    have := R.gn b hb
    rw [z, h] at this; cases this
  refine ⟨fun b w e => ?_, R.nd, fun b hb => ?_, R.len, fun n b d e1 e2 => ?_, R.slen, fun i d e => ?_, fun p hp => (R.tab p hp).two (fun ps z => n1 ps (Option.some.inj ((R.sub _ _ h).symm.trans z))) (fun c q z => n2 c q (Option.some.inj (h.symm.trans z))) (fun C dx z => n3 C dx (Option.some.inj (h.symm.trans z)))⟩
  · by_cases hb : b = a
    · subst hb; rw [upd_same] at e ⊢; exact e
    · rw [upd_ne hb] at e ⊢; exact R.sub b w e
  · rw [upd_ne (na b hb)]; exact R.gn b hb
  · exact cell.lk l (upd_ne (na b (List.mem_of_getElem? e1))) (R.cells n b d e1 e2)
  · obtain ⟨v, h1, h2⟩ := R.slots i d e
    exact ⟨v, h1, rep.lk l d v h2⟩
end
section
variable {nm : Nm} {X : Cx} {W : XW} {a tg it : Expr} {sts : List Stmt} {pos p : Pos} {ma : M} {m : SM} {T : Tg}
theorem PoS.imp {α : Type} {r : Option α} {k k' : α → Prop} (h : PoS r k) (hk : ∀ a, k a → k' a) : PoS r k' := by
  cases r with
  | none => exact h
  | some a => exact hk a h
end
end Lr
namespace Lr
open PySem L2
section
variable {S N L ρ : Type} {x : Bool} {γ : Sls S} {Qn : S → N → Ev → Mu → Prop} {Ql : S → L → Ev → Mu → Prop} {Qr : ρ → D → Mu → Prop} {Qx Qx' : S → Ev → Mu → Prop} {m r : SM} {g : S → R (Fl N L ρ)}
end
end Lr
namespace Lr
open PySem L2
end Lr
namespace Lr
open PySem L2 PySem.Spec
open PyProof.Rows hiding St
structure RkC (K : PySem.W.Frag) (R : Addr) : Prop where
  ga : PySem.W.specialIn K (.ref R) "__getattribute__" = some (some (.builtin "type.__getattribute__"))
  rd : PySem.W.readsIn K R (.type "type") = true
  at_ : PySem.W.findCls K (.ref R) (.type "type") "__init__" = some (.val (.builtin "ValueError.__init__"))
noncomputable def RkEv (env : Env) (xR : Str) (es : List Expr) (p1 p2 pos : Pos) : Prop := ∃ pl : Sem Bool, eval (.Call (.Attribute (.Name xR p1) "__init__" p2) es [] pos) env = (do
  let v ← eval (.Name xR p1) env
  standAt p2.atName
  let (g, fs) ← holding [v] (getMethod v "__init__" pl)
  callWith pos g fs (backTo pos (starEach es env)) (backToKw pos (keywordEach [] env)))
section
variable {X : Cx} {e : Expr} {es : List Expr} {ta : L2.TA} {xR : Str} {R : Addr} {p1 p2 pos : Pos}
theorem pe_rkinit (hg : Gl X xR) (hm : X.mg xR = some (.ref R)) (k : RkC X.K R) (ha : PA X (e :: es) ta) (hdb : (xR == ("__debug__" : Str)) = false) (hev : RkEv X.env xR (e :: es) p1 p2 pos)
    (he : starEach (e :: es) X.env = (false, eval e X.env) :: starEach es X.env := by rfl) (hpl : (backTo pos (starEach es X.env)).any (·.1) = false := by rfl) : PE X (.Call (.Attribute (.Name xR p1) "__init__" p2) (e :: es) [] pos) (tVeI X.K ta) := by
  obtain ⟨pl, hev⟩ := hev
  constructor
  intro pins s σ H Q I h
  refine PySem.W.methodCall_KW (ld_glob I hg hm ?_ hdb) hev
  refine PySem.W.method_cls I.kIn k.ga (PySem.W.cls_value I.kIn k.rd k.at_ (by rfl) ?_)
  show wpAny _ _ (callWith pos (.builtin "ValueError.__init__") [] _ []) _ _ _
  refine callWith_method1 ?_ he hpl
  refine thn (ha.run pos pins _ σ H _ (I.tok _) h) ?_
  rintro us s1 ⟨vs, H1, I1, r1, a, C, ws, rfl, hl, T, ea, q⟩
  cases r1 with
  | @cons _ u _ ur ra rr =>
    cases ra
    exact oinit_ok T I1 ea (by rw [← Paired.length rr, sizeLine_eq]; omega) fun s' J => ⟨.non, H1, J, rfl, q⟩
end
section
variable {P : Program} {w : World} {K : PySem.W.Frag} {mg : Str → Option Value} {base : Heap} {xi qual : Str} {st : Stmt} {f : Addr} {fd : FuncData} {y z f1 f2 m : Str} {R C : Addr} {p1 p2 p3 p4 p5 p6 p7 p8 p9 q1 q2 q3 q4 : Pos} {j : Nat}
noncomputable def spI1 (C : Addr) (f1 : Str) : Sp := fun vs H Q _ => ∃ (o : Addr) (v : V), vs = [.ref o, v] ∧ H o = some (exo o C none) ∧ ∀ dx, H dx = none → dx ≠ o → Q .non (upd (upd H dx (exd dx [(f1, v)])) o (exo o C (some dx)))
noncomputable abbrev rkCall (m : Str) (j : Nat) (p1 p2 p3 p4 pos p5 : Pos) : Stmt := .Expr (.Call (.Attribute (.Name "RackError" p1) "__init__" p2) [.Name "self" p3, .Constant (.str m) j p4] [] pos) p5
noncomputable abbrev setFl (f y : Str) (p1 p2 p3 p4 : Pos) : Stmt := .Assign [.Attribute (.Name "self" p1) f p2] (.Name y p3) p4
theorem exi1 (F : Fun K xi qual st f fd) (S : FnScope ["self", y] ["self", y] (defScope st)) (hb : defBody st = [rkCall m j p1 p2 p3 p4 p5 p6, setFl f1 y q1 q2 q3 q4]) (va : Vis (defScope st) "self") (vy : Vis (defScope st) y)
    (dy : (y == ("__debug__" : Str)) = false) (cy : (y == ("__classdict__" : Str)) = false)
    (hg : ∀ q n c v, (envOfC q (defScope st) n c v).kindOf "RackError" = some .globalImplicit) (hev : ∀ q n c v, RkEv (envOfC q (defScope st) n c v) "RackError" [.Name "self" p3, .Constant (.str m) j p4] p1 p2 p5) (hm : mg "RackError" = some (.ref R)) (k : RkC K R) (T : OexC K C) (n1 : PySem.W.findIn K (.ref C) f1 = some none) : FnOk P w K mg base CX0 1 f fd ["self", y] (spI1 C f1) := by
  refine F.ok S (fun vs H Q E h => ?_) fun cdv A outer s H vs Q E hr h => ?_
  · obtain ⟨o, v, rfl, _⟩ := h; rfl
  · obtain ⟨o, v, rfl, ho, h⟩ := h
    rw [hb]
    refine ⟨_, pss_cons (ps_expr (pe_rkinit (hg _ _ _ _) hm k (pa_cons (pe_var (i := 0) rfl va) (pa_cons pe_str pa_nil)) (by decide) (hev _ _ _ _))) (pss_one (ps_ost (pe_var (i := 0) rfl va) (pe_var (i := 1) rfl vy dy cy))), ?_⟩
    refine ⟨_, rfl, ?_⟩
    refine ⟨o, C, [.str m], rfl, by simp, T, ho, ?_⟩
    refine ⟨v, rfl, .ref o, rfl, o, C, rfl, T, n1, .inl ⟨ho, fun dx hd hne => h dx hd hne⟩⟩
end
section
variable {X : Cx} {e e2 : Expr} {es : List Expr} {ta : L2.TA} {x f1 f2 : Str} {C fI : Addr} {fd : FuncData} {a y z : Str} {p pos : Pos}
theorem del_upd {H H' : Hp} {o d : Addr} {v : HO} (ho : H o = none) (h : ∀ b, b ≠ o → b ≠ d → H' b = H b) (hne : d ≠ o) : upd (del H' o) d v = upd H d v := by
  funext b
  by_cases hb : b = d
  · subst hb; rw [upd_same, upd_same]
  · rw [upd_ne hb, upd_ne hb]
    by_cases hbo : b = o
    · subst hbo; rw [del_same, ho]
    · rw [del_ne hbo, h b hbo hb]
theorem wpA_imp {σ : L2.St} {H : Hp} {Q Q' : List V → Hp → Prop} (h : wpA X es σ H Q) (k : ∀ vs H1, Q vs H1 → Q' vs H1) : wpA X es σ H Q' := fun pos pins s I => wpAny_mono (h pos pins s I) (fun us s1 z => by
  obtain ⟨vs, H1, I1, r1, q⟩ := z
  exact ⟨vs, H1, I1, r1, k vs H1 q⟩) fun _ _ z => z
theorem mk_endN {X : Cx} {pins : List (Addr × Obj)} {σ : L2.St} {H1 H2 : Hp} {Q : XK} {hp hp2 h2 : Heap} {g1 g2 : Array GenState} {d1 d2 : Drawn} {t1 t2 : Nat} {os1 os2 : OsState} {a C d : Addr} {fs : List (Str × V)} (T : Raises X (.ref C)) (I1 : Inv X pins σ H1 ⟨hp, g1, d1, t1, os1⟩)
    (ha : hp.objs.size ≤ a) (k : ∀ b o, hp.get? b = some o → hp2.get? b = some o) (un : Un (frs X.stack) [] (upd H1 a (exo a C none)) H2 hp2 h2) (hok : HOk X.prog X.w H2 h2) (ho : os2 = os1) (hb : AllBare g2)
    (ea : H2 a = some (exo a C (some d))) (ed : H2 d = some (exd d fs)) (hd1 : H1 d = none) (q : Q (.ref C) (some d) (upd (del H2 a) d (.xd fs))) : L2N.MkP X pins σ Q (.ref a) ⟨h2, g2, d2, t2, os2⟩ := by
  obtain ⟨t0, G, J, kG, ge, hoe, na⟩ := mk_end0 (d2 := d2) (t2 := t2) I1 ha k un hok ho hb ea ed hd1
  exact ⟨a, _, _, ⟨G, g2, d2, t2, os2⟩, _, .ref C, some d, rfl, J, kG, ge, hoe, ⟨rfl, rfl, fun vs e => by cases e; rfl⟩, rfl, rfl, na, rfl, hb, T, q⟩
theorem pmk_oexN {X : Cx} {e : Expr} {es : List Expr} {ta : L2.TA} {p pos : Pos} {CX : CXT} {x : Str} {C fI : Addr} {k : Nat} {fd : FuncData} {ps : List Str} {sp : Sp} {ds : List Value} {dvs : List V} (T : OexC X.K C) (iC : PySem.W.findIn X.K (.ref C) "__init__" = some (some (.ref fI))) (tI : PySem.W.typeIn X.K (.ref fI) = some (.type "function"))
    (F1 : FnOk X.prog X.w X.K X.mg X.base CX k fI fd ps sp) (hr : Room (k + 1) X.A) (hb : Binds X.K fd ps ds) (hd : Vals dvs ds) (hx : Passes CX X (fun _ _ _ => False)) (hg : Gl X x) (hm : X.mg x = some (.ref C)) (ha : PA X (e :: es) ta)
    (hdb : (x == ("__debug__" : Str)) = false := by decide) (he : starEach (e :: es) X.env = (false, eval e X.env) :: starEach es X.env := by rfl) (hpl : (backTo pos (starEach es X.env)).any (·.1) = false := by rfl) :
    L2N.PMk X (.Call (.Name x p) (e :: es) [] pos) (tMkO C sp dvs ta) := by
  intro pins s σ H Q I h
  obtain ⟨nm0, q, N, bs, bm, sn, sub, ab, col, dd, k0, k1, k2, k3, k5, hC, hbm⟩ := T.cls
  refine wpAny_Call_Name_kw (ld_glob I hg hm ?_ hdb)
  refine PySem.W.callWith_K (h₀ := X.base) I.ok.mod.kin T.kC (thn (ha.run pos pins s σ H _ I h) fun us s1 ⟨vs, H1, I1, r1, hz, q1⟩ => ⟨I1.kIn, ?_⟩) he hpl
  show wpAny _ _ (call (.ref C) us) _ _ _
  obtain ⟨hp, g, dr, tk, os⟩ := s1
  have hsz : hp.objs.size ≤ hp.objs.size + 1 := Nat.le_succ _
  have hn : H1 (hp.objs.size + 1) = none := I1.hok.fresh hsz
  have hq := q1 (hp.objs.size + 1) hn
  have kk : ∀ b o, hp.get? b = some o → ((hp.push (PySem.W.kdv_tup us)).push (PySem.HandSPX.excO C hp.objs.size)).get? b = some o := fun b o e => Heap.get?_push_of_some _ (Heap.get?_push_of_some _ e)
  have hget : ((hp.push (PySem.W.kdv_tup us)).push (PySem.HandSPX.excO C hp.objs.size)).get? (hp.objs.size + 1) = some (PySem.HandSPX.excO C hp.objs.size) := by heap_get
  have I2 : Inv X pins σ (upd H1 (hp.objs.size + 1) (exo (hp.objs.size + 1) C none)) ⟨(hp.push (PySem.W.kdv_tup us)).push (PySem.HandSPX.excO C hp.objs.size), g, dr, tk, os⟩ :=
    I1.laid (t' := tk) (a := hp.objs.size + 1) (o := exo (hp.objs.size + 1) C none) (h' := (hp.push (PySem.W.kdv_tup us)).push (PySem.HandSPX.excO C hp.objs.size)) kk hsz (exo_ok hget)
  have r2 : Vals (V.ref (hp.objs.size + 1) :: (vs ++ dvs)) (Value.ref (hp.objs.size + 1) :: (us ++ ds)) := .cons rfl (r1.append hd)
  have hl : (Value.ref (hp.objs.size + 1) :: us ++ ds).length = ps.length := by
    have e := r2.length
    rw [F1.len _ _ _ _ hq] at e
    exact e.symm
  have hus : us.length ≤ sizeLine := by
    rw [← Paired.length r1, sizeLine_eq]
    omega
  refine wpAny_call (PySem.HandSPX.call_own F.excBase_ValueError (fun Y => PySem.HandSPX.refsVE_contains Y bm hbm) (I1.kIn _ _ hC) (PySem.W.looks_findIn I1.kIn iC) (fun self => PySem.W.bind_fn I1.kIn self tI) hus
    (codeAny_mono (F1.run _ X.stack _ _ ⟨Value.ref (hp.objs.size + 1) :: us, []⟩ (Value.ref (hp.objs.size + 1) :: (us ++ ds)) _ _ (fun _ _ _ => False) (hr.make C us []) (I2.env0.make C us []) (hb _ (Value.ref (hp.objs.size + 1) :: us) I2.kIn hl) r2 hq) fun r s' hq' => ?_))
  cases r with
  | error er => exact hx pins σ _ _ er s' I2 hq'
  | ok fl =>
    cases fl with
    | ret u =>
      obtain ⟨v, H2, os2, bare2, un2, hok2, rv, ev, d, fs, ea, ed, hd1, q2⟩ := hq'
      subst ev
      obtain ⟨h2, g2, d2, t2, os'⟩ := s'
      exact ⟨rv, mk_endN (raises_own T.exC T.tyC) I1 hsz kk un2 hok2 os2 bare2 ea ed hd1 q2⟩
    | next => exact False.elim hq'
    | brk => exact False.elim hq'
    | cont => exact False.elim hq'
theorem pmk_i1 (T : OexC X.K C) (iC : PySem.W.findIn X.K (.ref C) "__init__" = some (some (.ref fI))) (tI : PySem.W.typeIn X.K (.ref fI) = some (.type "function")) (F1 : FnOk X.prog X.w X.K X.mg X.base CX0 1 fI fd [a, y] (spI1 C f1)) (hb : Binds X.K fd [a, y] []) (hr : Room 2 X.A)
    (hg : Gl X x) (hm : X.mg x = some (.ref C)) (hdb : (x == ("__debug__" : Str)) = false) (he : starEach [e] X.env = (false, eval e X.env) :: starEach [] X.env) :
    L2N.PMk X (.Call (.Name x p) [e] [] pos) (fun σ H Q => wpA X [e] σ H fun vs H1 => ∃ v, vs = [v] ∧ ∀ d, H1 d = none → Q (.ref C) (some d) (upd H1 d (.xd [(f1, v)]))) := by
  intro pins s σ H Q I h
  refine pmk_oexN (p := p) (pos := pos) (ds := []) (dvs := []) T iC tI F1 hr hb .nil pass0 hg hm pa_wp hdb he rfl pins s σ H Q I (wpA_imp h ?_)
  rintro vs H1 ⟨v, rfl, q⟩
  refine ⟨by simp, fun o ho => ⟨o, v, rfl, upd_same, fun d hd hne => ⟨rfl, d, [(f1, v)], upd_same, ?_, ?_, ?_⟩⟩⟩
  · rw [upd_ne hne, upd_same]
  · rw [upd_ne hne] at hd; exact hd
  · rw [upd_ne hne] at hd
    rw [del_upd ho (fun b hb hd => by rw [upd_ne hb, upd_ne hd, upd_ne hb]) hne]
    exact q d hd
end
noncomputable def sRaiseI (c : Nat) (ms : MA) : SM := fun e μ => eThen (ms e μ) e fun y => some (.xc c y.1.reverse e y.2)
section
variable {nm : Nm} {X : Cx} {W : XW} {e e2 : Expr} {ms : MA} {x f1 f2 : Str} {C fI : Addr} {fd : FuncData} {a y z : Str} {p pos pos' : Pos} {c : Nat}
theorem sv_raiseI1 (hc : X.calm = true) (tk : L2N.Takes X W) (T : OexC X.K C) (iC : PySem.W.findIn X.K (.ref C) "__init__" = some (some (.ref fI))) (tI : PySem.W.typeIn X.K (.ref fI) = some (.type "function")) (F1 : FnOk X.prog X.w X.K X.mg X.base CX0 1 fI fd [a, y] (spI1 C f1)) (hb : Binds X.K fd [a, y] []) (hr : Room 2 X.A)
    (hm : X.mg x = some (.ref C)) (hn : nm.cn c = x) (hf : nm.cf c = [f1]) (ha : AV nm X W [e] ms) (hg : Gl X x := by rfl) (hdb : (x == ("__debug__" : Str)) = false := by decide) (he : starEach [e] X.env = (false, eval e X.env) :: starEach [] X.env := by rfl) :
    SV nm X W (.Raise (some (.Call (.Name x p) [e] [] pos)) none pos') (sRaiseI c ms) := ⟨fun env μ σ H ρ G D R P => to_s (L2N.ps_raise hc tk (pmk_i1 T iC tI F1 hb hr hg hm hdb he)) (by
  refine ha.run env μ σ H ρ G _ R ?_
  cases q : ms env μ with
  | no => unfold sRaiseI eThen at P; rw [q] at P; exact P.elim
  | ex c' ds μ' => unfold sRaiseI eThen at P; rw [q] at P; exact fun C dx H' ρ' G' mm x R' xf => P C dx σ H' ρ' G' mm x R' xf
  | ok r =>
    intro vs H1 ρ1 G1 e1 R1 r1
    unfold sRaiseI eThen at P; rw [q] at P
    have hl := r1.length
    rw [ha.len env μ r q] at hl
    obtain ⟨v, rfl⟩ := List.length_eq_one_iff.mp hl
    refine ⟨v, rfl, fun d hd => ?_⟩
    obtain ⟨R2, e2⟩ := R1.laidG (.xd [(f1, v)]) hd
    refine P C (some d) σ _ ρ1 _ (by rw [← hm]; show X.mg (nm.cn c) = _; rw [hn]) (e1.trans e2) R2 (.inr ⟨d, [v], rfl, ?_, ?_, ?_⟩)
    · show upd G1 d _ d = some (.xd ((nm.cf c).zip [v]))
      rw [hf, upd_same]; rfl
    · show 1 ≤ (nm.cf c).length
      rw [hf]; simp
    · have := (e2.reps r1).rev
      exact this)⟩
end
end Lr
namespace Lr
open PySem L2 PySem.Spec
open PyProof.Rows hiding St
section
variable {X : Cx} {pins : List (Addr × Obj)} {σ : L2.St} {H : Hp} {s : Shared} {a C : Addr} {d : Option Addr} {oe : Obj} {fs : Array Value}
theorem inv_track (I : Inv X pins σ H s) (he : s.heap.get? a = some oe) (hz : L2N.Zn (.ref C) d oe) (hd : oe.data = .fields fs) (na : H a = none) (n0 : X.s_0.heap.get? a = none) (nL : a ≠ X.env.locals) (np : ∀ p ∈ X.pn ++ pins, p.1 ≠ a) : Inv X pins σ (upd H a (ExV a C d)) s := by
  have oth : ∀ {b : Addr} {o : HO}, H b = some o → b ≠ a := fun e z => by rw [z, na] at e; cases e
  have nc : ∀ x c, X.env.cells.lookup x = some c → c ≠ a := fun x c e z => by
    obtain ⟨v, o, ho, hv⟩ := I.cell x c e
    rw [z, he] at ho
    cases ho
    rw [hd] at hv; cases hv
  constructor
  · exact I.ok
  · exact I.os
  · exact I.bare
  · constructor
    · exact I.base.keep
    · exact I.base.slot
    · intro b o e n hx
      rw [upd_ne (fun z => by rw [z, n0] at e; cases e)]
      exact I.base.free b o e n hx
    · exact I.base.there
    · intro b xs e
      have q := I.base.tups b xs e
      rw [upd_ne (oth q)]; exact q
    · intro b o u e
      have q := I.base.frzs b o u e
      rw [upd_ne (oth q)]; exact q
    · intro b ps e
      obtain ⟨m, q⟩ := I.base.tbls b ps e
      exact ⟨m, by rw [upd_ne (oth q)]; exact q⟩
  · exact I.loc
  · exact I.cell
  · rw [upd_ne (Ne.symm nL)]; exact I.free
  · intro x c e
    rw [upd_ne (nc x c e)]; exact I.freeC x c e
  · intro p hp
    obtain ⟨q1, q2, q3⟩ := I.pin p hp
    exact ⟨q1, by rw [upd_ne (np p hp)]; exact q2, q3⟩
  · intro b o e
    by_cases hb : b = a
    · subst hb
      rw [upd_same] at e
      cases e
      exact ⟨⟨oe, fs, he, hz, hd⟩, ⟨oe, he⟩, fun h1 h2 ⟨o', v', q1, q2⟩ k => ⟨o', v', k o' q1, q2⟩⟩
    · rw [upd_ne hb] at e
      exact (I.hok b o e).stay (fun _ _ _ q => q) (fun c q => by rw [upd_ne (oth q)]; exact q) fun c xs q => by rw [upd_ne (oth q)]; exact q
  · exact I.len
theorem inv_suite (I : Inv X pins σ H s) (a : Addr) : Inv (X.suite a (X.pn ++ pins)) [] σ H s where
  ok := I.ok.suite a _
  os := I.os
  bare := I.bare
  base := I.base
  loc := I.loc
  cell := I.cell
  free := I.free
  freeC := I.freeC
  pin := fun p hp => I.pin p (by rw [List.append_nil] at hp; exact hp)
  hok := I.hok
  len := I.len
theorem inv_unsuite {pn' : List (Addr × Obj)} (I : Inv (X.suite a (X.pn ++ pins)) pn' σ H s) (ok : X.Ok) : Inv X pins σ H s where
  ok := ok
  os := I.os
  bare := I.bare
  base := I.base
  loc := I.loc
  cell := I.cell
  free := I.free
  freeC := I.freeC
  pin := fun p hp => I.pin p (List.mem_append_left _ hp)
  hok := I.hok
  len := I.len
theorem sky_new {B : Heap} {l : List Env} {Z : Obj → Prop} {L : Addr} {h : Heap} (x : Sky B l a Z L h) : B.get? a = none := by
  rcases x with x | x | x
  · exact x.2.1
  · exact x.2.1
  · exact x.2.1
theorem fly_notFr {B : Heap} {l : List Env} {Z : Obj → Prop} {h : Heap} (x : HandSPX.FlyingZ B l a Z h) : a ∉ frs l := fun hm => by
  obtain ⟨oe, vs, e, _, dd⟩ := x.there
  obtain ⟨_, o', e', nf⟩ := x.2.2.1.mem hm
  rw [e] at e'
  cases e'
  exact nf vs dd
end
noncomputable def endU (i : Nat) (D : Ends) : Ends := { nx := fun σ H => D.nx (σ.set i none) H, rt := D.rt, bk := fun σ H => D.bk (σ.set i none) H, ct := fun σ H => D.ct (σ.set i none) H }
noncomputable def wKp (K : PySem.W.Frag) (c : Value) (i : Nat) (ts : Addr → L2.TS) (Wout : WX) (D : Ends) : WX := fun cls d σ H => ∃ (b : Bool) (C : Addr), cls = .ref C ∧ PySem.W.exmOne K cls c = some b ∧
  (b = true → ∀ a, H a = none → ts a (endU i D) (σ.set i (some (.ref a))) (upd H a (ExV a C d))) ∧ (b = false → Wout cls d σ H)
section
variable {X : Cx} {x n : Str} {c : Value} {i : Nat} {body suite : List Stmt} {b₀ : Stmt} {npx pos pos' : Pos} {tb : WX → L2.TS} {ts : Addr → L2.TS} {Wout : WX}
theorem ps_try_keep (hs : X.stack = X.env :: X.outer) (hf : X.env.frame = some X.env.locals) (hex : X.ex = []) (hN : X.N.Nodup) (hi : X.N[i]? = some n) (hln : X.env.kindOf n = some .local) (hc : Names X x c) (tk : L2N.Takes X Wout)
    (hb : ∀ (W : WX) (pn : List (Addr × Obj)) (xe : Value → Shared → Prop), L2N.Takes (X.tr pn xe) W → PassesOwn (model X.prog X.w) X.A X.env xe → PSs (X.tr pn xe) body (tb W))
    (hsu : ∀ (a : Addr) (pn : List (Addr × Obj)), PSs (X.suite a pn) (b₀ :: suite) (ts a)) :
    PS X (.Try body [.ExceptHandler (some (.Name x npx)) (some n) (b₀ :: suite) pos'] [] [] pos) (fun D σ H => tb (wKp X.K c i ts Wout D) D σ H) := by
  constructor
  intro pins s σ H D I h
  have ok := I.ok
  have fr : X.A.frames = some (X.env :: X.outer) := ok.frames.trans (congrArg some hs)
  refine wpAny_Try_except (wpAny_mono ((hb (wKp X.K c i ts Wout D) (X.pn ++ pins) _ (fun u s' xx => ?caught) PassesOwn.looking).run [] s σ H D (I.toTry _) h) (fun f s1 hsp => ?went) fun _ _ z => z)
  case went =>
    cases f with
    | ret u => obtain ⟨v, σ', H', J, r, q⟩ := hsp; exact ⟨v, σ', H', J.ofTry ok, r, q⟩
    | next => obtain ⟨σ', H', J, q⟩ := hsp; exact wpAny_execs_nil ⟨σ', H', J.ofTry ok, q⟩
    | brk => obtain ⟨σ', H', J, q⟩ := hsp; exact ⟨σ', H', J.ofTry ok, q⟩
    | cont => obtain ⟨σ', H', J, q⟩ := hsp; exact ⟨σ', H', J.ofTry ok, q⟩
  case caught =>
    obtain ⟨a, B, sI, pins', σ', H', cls, d, rfl, J0, nb, up, sky, na, os, ag, b, C, rfl, hm, yes, no⟩ := xx
    have J : Inv X pins σ' H' sI := J0.ofTry ok
    have hBa := sky_new sky
    rw [show (X.tr (X.pn ++ pins) _).stack = X.env :: X.outer from hs] at sky
    refine L2N.Sky.land L2N.Zn.steady fr hf sky fun h3 fl3 up3 => ?_
    have nfr := fly_notFr fl3
    have nI : sI.heap.get? a = none := by
      cases e : sI.heap.get? a with
      | none => rfl
      | some o =>
        have := nb a o e (by show a ∉ frs X.stack; rw [hs]; exact nfr)
        rw [hBa] at this; cases this
    have n0 : X.s_0.heap.get? a = none := by
      cases e : X.s_0.heap.get? a with
      | none => rfl
      | some o =>
        obtain ⟨o', q⟩ := J.base.there a o e (by rw [hex]; simp)
        rw [nI] at q; cases q
    have np : ∀ p ∈ X.pn ++ pins, p.1 ≠ a := fun p hp z => by
      have := (J.pin p hp).1
      rw [z, nI] at this; cases this
    have nL : a ≠ X.env.locals := fun z => nfr (List.mem_filterMap.mpr ⟨X.env, List.mem_cons_self, by rw [hf, z]⟩)
    obtain ⟨oe3, vs3, he3, hz3, hd3⟩ := fl3.there
    have J3 : Inv X pins σ' H' { s' with heap := h3 } := J.landed nb fl3.1 (up.trans up3) os ag
    have T3 := inv_suite (inv_track J3 he3 hz3 hd3 na n0 nL np) a
    refine wpAny_handleBy_cons (codeAny_handlers_test ?_) (by intro q; cases q)
    have ty : PySem.W.Looks (model X.prog X.w) h3 (typeOf (.ref a)) (.ref C) := fun _ _ _ _ k q => wpAny_typeOf_ref (k _ _ he3) (by rw [hz3.1]; exact q)
    have ask : ∀ {Q E : Value → Shared → Prop}, Q c { s' with heap := h3 } → wpAny (model X.prog X.w) (X.A.mark (some (.ref a))) (eval (.Name x npx) X.env) Q E { s' with heap := h3 } := fun {Q E} q => by
      obtain ⟨hg, hdb, e | ⟨e, hv, hnn⟩⟩ := hc
      · exact ld_glob (X := X.suite a (X.pn ++ pins)) T3 hg e q hdb
      · exact ld_blt (X := X.suite a (X.pn ++ pins)) T3 hg e hv q hnn hdb
    refine ask ((PySem.W.exm_one (M := model X.prog X.w) J3.kIn ty hm).here ?_)
    cases b with
    | true =>
      refine codeAny_handlers_suite_as (HandSPX.lands_againZ fl3 fun h4 fl4 up4 => ?_)
      obtain ⟨oe4, vs4, he4, hz4, hd4⟩ := fl4.there
      have J4 : Inv X pins σ' H' { s' with heap := h4 } := J.landed nb fl4.1 ((up.trans up3).trans up4) os ag
      have T4 := inv_suite (inv_track J4 he4 hz4 hd4 na n0 nL np) a
      refine store_ok (X := X.suite a (X.pn ++ pins)) (v := .ref a) T4 hN hi (.inl hln) rfl (fun s5 S5 => ?_) (.inr hln)
      refine wpAny_mono ((hsu a (X.pn ++ pins)).run [] s5 _ _ _ S5 (yes rfl a na)) (fun f s6 q6 => ?_) fun _ _ z => False.elim z
      have goes : ∀ {σ6 : L2.St} {H6 : Hp} {Q : Shared → Prop}, Inv (X.suite a (X.pn ++ pins)) [] σ6 H6 s6 → (∀ s7, Inv X pins (σ6.set i none) H6 s7 → Q s7) → wpAny (model X.prog X.w) X.A (do bindName X.env n .none; unbindBehindTheSuite X.env n pos') (fun _ s7 => Q s7) X.xe s6 :=
        fun S6 hq => gone_ok (inv_unsuite S6 ok) hN hi hln hq
      cases f with
      | ret u => obtain ⟨v, σ6, H6, S6, r6, q⟩ := q6; exact goes S6 fun s7 J7 => ⟨_, _, _, J7, r6, q⟩
      | next => obtain ⟨σ6, H6, S6, q⟩ := q6; exact goes S6 fun s7 J7 => ⟨_, _, J7, q⟩
      | brk => obtain ⟨σ6, H6, S6, q⟩ := q6; exact goes S6 fun s7 J7 => ⟨_, _, J7, q⟩
      | cont => obtain ⟨σ6, H6, S6, q⟩ := q6; exact goes S6 fun s7 J7 => ⟨_, _, J7, q⟩
    | false =>
      show wpAny _ X.A (handleBy (.ref a) X.env []) _ _ _
      refine wpAny_handleBy_nil ?_
      obtain ⟨k1, k2, k3, oe, vs, T, oT, ts', he, hz, hd, h1, hr⟩ := id fl3
      unfold PySem.passOn
      refine wpAny_bind (wpAny_field he hd h1 ?_)
      rw [if_neg (by simp)]
      have last : wpAny (model X.prog X.w) X.A (setFlight (.ref a) X.env.frame) (fun _ s4 => wpAny (model X.prog X.w) X.A (throw (.ref a) : Sem Flow) (SP X pins D) X.xe s4) X.xe { s' with heap := h3 } := by
        rw [hf]
        exact HandSPX.setFlight_upZ fl3 fun h4 hh4 up4 => wpAny_throw (tk _ _ ⟨a, B, sI, pins, σ', H', _, d, rfl, J, nb, (up.trans up3).trans up4, .inr (.inr (by rw [hs]; exact hh4)), na, os, ag, no rfl⟩)
      first
        | exact wpAny_bind last
        | exact wpAny_bind (wpAny_pure (wpAny_bind last))
end
noncomputable def gone (i : Nat) (r : Option Ot) : Option Ot := match r with
  | some (.nx e μ) => some (.nx (e.set i none) μ)
  | some (.bk e μ) => some (.bk (e.set i none) μ)
  | some (.ct e μ) => some (.ct (e.set i none) μ)
  | some (.rt d μ) => some (.rt d μ)
  | some (.xc _ _ _ _) => none
  | none => none
noncomputable def sTryA (cat : Nat → Option Bool) (i : Nat) (mb ms : SM) : SM := fun e μ => match mb e μ with
  | some (.xc c ds e' μ') => match cat c with
    | some true => gone i (ms (e'.set i (some (.exc c ds))) μ')
    | some false => some (.xc c ds e' μ')
    | none => none
  | r => r
theorem Rel.unset {t : Ct} {G H : Hp} {ρ : List Addr} {env : Ev} {μ : Mu} {σ : L2.St} (R : Rel t G ρ env μ σ H) (i : Nat) : Rel t G ρ (env.set i none) μ (σ.set i none) H :=
  R.reslot (by rw [List.length_set, List.length_set]; exact R.slen) fun j d e => by
    by_cases hj : j = i
    · subst hj
      by_cases hl : j < env.length
      · rw [List.getElem?_set_self hl] at e; cases e
      · rw [List.getElem?_eq_none (by simp; omega)] at e; cases e
    · rw [List.getElem?_set_ne (Ne.symm hj)] at e
      obtain ⟨v, h1, h2⟩ := R.slots j d e
      exact ⟨v, by rw [List.getElem?_set_ne (Ne.symm hj)]; exact h1, h2⟩
section
variable {nm : Nm} {X : Cx} {x n : Str} {c0 : Value} {i : Nat} {body suite : List Stmt} {b₀ : Stmt} {npx pos pos' : Pos} {Wout : WX} {mb ms : SM} {cat : Nat → Option Bool}
end
end Lr
namespace Lr
open PySem L2 PySem.Spec
open PyProof.Rows hiding St
section
variable {nm : Nm} {X : Cx} {W : XW}
end
end Lr
namespace Lr
open PySem L2 PySem.Spec
open PyProof.Rows hiding St
section
variable {nm : Nm} {X : Cx} {W : XW} {pos : Pos} {k v : Expr} {tk tv : L2.TE} {mk mv : M}
end
end Lr
namespace Lr
open PySem L2
section
variable {α β T : Type} {k : α → D} {l : β → D} {x : Bool} {n n2 : Dt}
noncomputable def kTz (k : α → D) : List α → D := fun xs => .tpz (xs.map k)
theorem il_tpz {al : Bool} {μ : Mu} {ds : List D} {N m : Nat} (h : ∀ m, N ≤ m → mapO (inl al μ m) ds = some ds) (hm : N + 1 ≤ m) : inl al μ m (.tpz ds) = some (.tpz ds) := by
  obtain ⟨j, rfl⟩ : ∃ j, m = j + 1 := ⟨m - 1, by omega⟩
  show (mapO (inl al μ j) ds).map D.tpz = _
  rw [h j (by omega)]; rfl
noncomputable instance [Kn k n] : Kn (kTz k) (.s n) := ⟨fun a => by show nrs (a.map k) = true; exact nrs_map fun b _ => Kn.nr b, fun a μ m h => il_tpz (fun m hm => mapO_map fun b => Kn.il b μ m hm) h⟩
noncomputable instance [Kf k n] : Kf (kTz k) (.s n) := ⟨fun a μ m h => il_tpz (fun m hm => mapO_map fun b => Kf.il b μ m hm) h⟩
noncomputable instance [Kn k n] : Kv (kTz k) := kv_nc fun _ => rfl
class Kt {α : Type} [DecidableEq α] (k : α → D) : Prop where
  isk : ∀ a, (keyT (k a)).isSome = true
  eq : ∀ a b, kEq (k a) (k b) = decide (a = b)
  cl : ∀ a, isCl (k a) = false
theorem keys_str : ∀ xs : List (List Nat), keysOfL (xs.map D.str) = some (xs.map fun x => (.inr (S x) : L2.Key))
  | [] => rfl
  | x :: r => by rw [List.map_cons]; unfold keysOfL; rw [keys_str r]; rfl
theorem map_inr_inj : ∀ {xs ys : List (List Nat)}, (xs.map fun x => (.inr (S x) : L2.Key)) = (ys.map fun x => (.inr (S x) : L2.Key)) → xs = ys
  | [], [], _ => rfl
  | [], _ :: _, h => by cases h
  | _ :: _, [], h => by cases h
  | a :: r, b :: q, h => by
    rw [List.map_cons, List.map_cons] at h
    injection h with h1 h2
    injection h1 with h3
    rw [S_inj h3, map_inr_inj h2]
theorem keyT_strs (xs : List (List Nat)) : keyT (kTp D.str xs) = some (xs.map fun x => (.inr (S x) : L2.Key)) := keys_str xs
noncomputable instance : Kt (kTp D.str) := ⟨fun a => by rw [keyT_strs]; rfl, fun a b => by
  have e : kEq (kTp D.str a) (kTp D.str b) = match keyT (kTp D.str a), keyT (kTp D.str b) with
    | some x, some y => decide (x = y)
    | _, _ => false := rfl
  rw [e, keyT_strs, keyT_strs]
  show decide _ = decide _
  rw [decide_eq_decide]
  exact ⟨map_inr_inj, fun h => by rw [h]⟩, fun _ => rfl⟩
end
end Lr
namespace Lr
open PySem L2
section
variable {S α β δ A ρ O : Type} {x : Bool} {γ : Sls S} {ms : MA} {ka : A → List D} {G : (β : Type) → S → (A → R β) → R β} {F : GF}
end
end Lr
namespace Lr
open PySem L2
end Lr
namespace Lr
open PySem L2
end Lr
namespace PySem.W
open PySem PySem.Calls PyProof.Rows
section
variable {prog : Program} {w : World} {A : Around} {E : Value → Shared → Prop} {s : Shared} {β : Type} {vs : List Value} {bs : List β} {enc : β → PyData} {R : Value → β → Prop}
end
end PySem.W
namespace Lr
open PySem L2
section
variable {nm : Nm} {X : Cx} {W : XW}
end
end Lr
namespace Lr
open PySem L2 PySem.Spec
open PyProof.Rows hiding St
section
variable {α : Type} {k : α → D} {x : Bool}
end
section
variable {nm : Nm} {X : Cx} {W : XW} {pos : Pos} {k v : Expr} {mk mv : M}
end
end Lr
namespace Lr
open PySem L2
section
variable {nm : Nm} {X : Cx} {W : XW} {sts : List Stmt} {m : SM}
end
end Lr
namespace Lr
open PySem L2
section
variable {α : Type} {k : α → D} {n : Dt}
noncomputable instance [DecidableEq α] [Eqk k n] : Eqk (kTz k) (.s n) := ⟨fun a m h => by
  obtain ⟨j, rfl⟩ : ∃ j, m = j + 1 := ⟨m - 1, by simp only [Dt.n] at h; omega⟩
  exact pds_map fun b _ => Eqk.pd b j (by simp only [Dt.n] at h; omega), fun a b => eqvAll_map (fun a b => Eqk.eq a b) a b, fun a μ m h => by
  obtain ⟨j, rfl⟩ : ∃ j, m = j + 1 := ⟨m - 1, by simp only [Dt.n] at h; omega⟩
  show (mapO (inlE μ j) (a.map k)).map D.tpz = _
  rw [mapOE fun b => Eqk.il b μ j (by simp only [Dt.n] at h; omega)]; rfl⟩
noncomputable instance : Eqk (kOpt D.int) .o := ⟨fun a m _ => by cases a with
    | none => exact pd_non
    | some a => exact pd_int, fun a b => by
  cases a with
  | none => cases b with
    | none => rfl
    | some b => simp only [kOpt, toP, PyData.eqv]; rfl
  | some a => cases b with
    | none => simp only [kOpt, toP, PyData.eqv]; rfl
    | some b =>
      have := Eqk.eq (k := D.int) a b
      show PyData.eqv (toP (D.int a)) (toP (D.int b)) = _
      rw [this]; simp, fun a μ m h => by
  cases a with
  | none => exact ile_z (P := fun m => inlE μ m .non = some .non) rfl (fun _ => rfl) m
  | some a => exact Eqk.il (k := D.int) a μ m h⟩
noncomputable instance : Lsk (kOpt D.int) := ⟨fun a h => by cases a <;> cases h⟩
noncomputable instance : Lsk (kTz k) := ⟨fun a h => by cases h⟩
end
end Lr
namespace Lr
open PySem L2
section
variable {nm : Nm} {X : Cx} {W : XW} {a : Expr} {lo hi : Option Expr} {ma : M} {ml mh : MO} {pos p2 p3 p4 : Pos} {k : Nat}
end
end Lr
namespace Lr
open PySem L2
end Lr
namespace PySem
open Sem (wp)
open AutoSeq1
end PySem
namespace Lr
open PySem L2
section
variable {nm : Nm} {X : Cx} {W : XW}
end
end Lr
namespace Lr
open PySem L2 PySem.Spec
open PyProof.Rows hiding St
structure Xc (K : PySem.W.Frag) (C : Addr) : Prop where
  cl : (PySem.W.clsIn K C).isSome = true
  hg : PySem.W.findIn K (.ref C) "__getattribute__" = some (some (.builtin "BaseException.__getattribute__"))
  hk : PySem.W.findIn K (.ref C) "__getattr__" = some none
  hs : PySem.W.subIn K (.ref C) (.type "BaseException") = some true
  hd : PySem.W.hasDictIn K C = true
  ha : PySem.W.findIn K (.ref C) "__class__" = some (some (.builtin "object.__class__"))
  hn : PySem.W.specialIn K (.builtin "object.__class__") "__get__" = some (some (.builtin "getset_descriptor.__get__"))
  ht : PySem.W.takesIn K (.builtin "object.__class__") = some true
  hm : PySem.W.mroIn K C (.type "object") = some true
  tm : PySem.W.typeIn K (.ref C) = some (.type "type")
  kp : PySem.W.keepIn K (.ref C) = true
noncomputable def xcB (K : PySem.W.Frag) (C : Addr) : Bool := (PySem.W.clsIn K C).isSome && (decide (PySem.W.findIn K (.ref C) "__getattribute__" = some (some (.builtin "BaseException.__getattribute__"))) && (decide (PySem.W.findIn K (.ref C) "__getattr__" = some none) &&
  (decide (PySem.W.subIn K (.ref C) (.type "BaseException") = some true) && (PySem.W.hasDictIn K C && (decide (PySem.W.findIn K (.ref C) "__class__" = some (some (.builtin "object.__class__"))) && (decide (PySem.W.specialIn K (.builtin "object.__class__") "__get__" = some (some (.builtin "getset_descriptor.__get__"))) &&
  (decide (PySem.W.takesIn K (.builtin "object.__class__") = some true) && (decide (PySem.W.mroIn K C (.type "object") = some true) && (decide (PySem.W.typeIn K (.ref C) = some (.type "type")) && PySem.W.keepIn K (.ref C))))))))))
theorem xcB_ok {K : PySem.W.Frag} {C : Addr} (h : xcB K C = true) : Xc K C := by
  unfold xcB at h
  simp only [Bool.and_eq_true, decide_eq_true_eq] at h
  obtain ⟨h1, h2, h3, h4, h5, h6, h7, h8, h9, h10, h11⟩ := h
  exact ⟨h1, h2, h3, h4, h5, h6, h7, h8, h9, h10, h11⟩
section
variable {X : Cx} {pins : List (Addr × Obj)} {σ : L2.St} {H : Hp} {s : Shared} {a C : Addr} {dx : Option Addr}
theorem inst_ex (I : Inv X pins σ H s) (h : H a = some (ExV a C dx)) (hd : ∀ d, dx = some d → ∃ fs, H d = some (.xd fs)) : ∃ oe od, PySem.W.InstAt s.heap a oe C od ∧ (∀ d fs, dx = some d → H d = some (.xd fs) → ∃ (o : Obj) (mA : Str → Option Value), od = some o ∧ (∀ name, PySem.W.lookIn name o = some (mA name)) ∧ ∀ x, RelO (fs.lookup x) (mA x)) := by
  obtain ⟨⟨oe, vs, ho, hz, hf⟩, _⟩ := I.hok a _ h
  cases dx with
  | none => exact ⟨oe, none, ⟨ho, hz.1, by unfold PySem.W.notCls; rw [hf] <;> rfl, by rw [hz.2.1]; trivial⟩, fun d fs e => by cases e⟩
  | some d =>
    obtain ⟨fs, hx⟩ := hd d rfl
    obtain ⟨mA, hns, hr⟩ := (show ObjOk X.prog X.w H s.heap d (.xd fs) from I.hok d _ hx)
    obtain ⟨od, ho', hl⟩ := lookIn_ns hns
    refine ⟨oe, some od, ⟨ho, hz.1, by unfold PySem.W.notCls; rw [hf] <;> rfl, by rw [hz.2.1]; exact ho'⟩, fun d' fs' e q => ?_⟩
    cases e
    rw [hx] at q; cases q
    exact ⟨od, mA, rfl, hl, hr⟩
noncomputable def rIsV (K : PySem.W.Frag) : List V → Hp → VK → Prop := fun xs H Q => ∃ (a C : Addr) (dx : Option Addr) (c : V) (cv : Value) (b : Bool), xs = [.ref a, c] ∧ H a = some (ExV a C dx) ∧ (∀ d, dx = some d → ∃ fs, H d = some (.xd fs)) ∧ Xc K C ∧ ClsV c cv ∧ PySem.W.kitOne K (.ref C) cv = some b ∧ Q (.bl b) H
theorem call_isV : CallR X (.builtin "isinstance") (rIsV X.K) := by
  intro pins s σ H xs us Q I r h
  obtain ⟨a, C, dx, c, cv, b, rfl, ha, hd, T, k, e, q⟩ := h
  obtain ⟨u1, u2, rfl, r1, r2⟩ := vals2 r
  have e2 := k.eq r2
  subst e2
  cases (show u1 = Value.ref a from r1)
  obtain ⟨oe, od, J, _⟩ := inst_ex I ha hd
  exact PySem.W.kia_one (PySem.W.kitx_exc (gt := none) T.cl T.hg T.hk T.hs T.ha T.hn T.ht T.hm) I.kIn J e (fun z => nomatch z) fun tk => ⟨.bl b, H, I.tok tk, rfl, q⟩
end
noncomputable def dIsX (f : Nat → Option Bool) (n : Option Bool) : F1 := fun d μ => match d with
  | .exc c _ => match f c with
    | some b => .ok (.bl b, μ)
    | none => .no
  | .non => match n with
    | some b => .ok (.bl b, μ)
    | none => .no
  | _ => .no
noncomputable def XOk (nm : Nm) (K : PySem.W.Frag) (mg : Str → Option Value) (ask : Value → Option Bool) (f : Nat → Option Bool) : Prop := ∀ c b, f c = some b → ∃ C, mg (nm.cn c) = some (.ref C) ∧ Xc K C ∧ ask (.ref C) = some b
theorem xok_nil {nm : Nm} {K : PySem.W.Frag} {mg : Str → Option Value} {ask : Value → Option Bool} : XOk nm K mg ask (fun c => ([] : List (Nat × Bool)).lookup c) := fun c b h => by cases h
theorem xok_cons {nm : Nm} {K : PySem.W.Frag} {mg : Str → Option Value} {ask : Value → Option Bool} {c : Nat} {b : Bool} {l : List (Nat × Bool)} {C : Addr} (hm : mg (nm.cn c) = some (.ref C)) (x : Xc K C) (hb : ask (.ref C) = some b) (h : XOk nm K mg ask (fun c => l.lookup c)) : XOk nm K mg ask (fun d => ((c, b) :: l).lookup d) := fun d b' e => by
  dsimp only at e
  rw [List.lookup_cons] at e
  split at e
  · rename_i q
    cases e
    rw [beq_iff_eq] at q; subst q
    exact ⟨C, hm, x, hb⟩
  · exact h d b' e
section
variable {nm : Nm} {X : Cx} {W : XW} {e : Expr} {pos p p2 : Pos} {ma : M} {y : Str} {f : Nat → Option Bool} {n : Option Bool} {T : Addr} {Tn : String}
theorem CallR.or' {g : Value} {r r' : List V → Hp → VK → Prop} (h : CallR X g r) (k : CallR X g r') : CallR X g (fun xs H Q => r xs H Q ∨ r' xs H Q) := fun pins s σ H xs us Q I rv q => by
  rcases q with q | q
  · exact h pins s σ H xs us Q I rv q
  · exact k pins s σ H xs us Q I rv q
theorem exc_H {env : Ev} {μ : Mu} {σ : L2.St} {H G : Hp} {ρ : List Addr} (R : Rel (ct nm X) G ρ env μ σ H) {c : Nat} {ds : List D} {v : V} (r : rep (ct nm X) G ρ (.exc c ds) v) : ∃ a C dx, v = .ref a ∧ X.mg (nm.cn c) = some (.ref C) ∧ H a = some (ExV a C dx) ∧ (∀ d, dx = some d → ∃ fs, H d = some (.xd fs)) ∧
    ((ds = [] ∧ dx = none) ∨ ∃ d vs, dx = some d ∧ H d = some (.xd ((nm.cf c).zip vs)) ∧ reps (ct nm X) G ρ ds vs) := by
  obtain ⟨a, C, dx, e, m, q, r⟩ := r
  refine ⟨a, C, dx, e, m, R.sub _ _ q, fun d hd => ?_, ?_⟩
  · rcases r with ⟨_, rfl⟩ | ⟨d', vs, rfl, q2, _⟩
    · cases hd
    · cases hd; exact ⟨_, R.sub _ _ q2⟩
  · rcases r with r | ⟨d', vs, h1, q2, _, r⟩
    · exact .inl r
    · exact .inr ⟨d', vs, h1, R.sub _ _ q2, r⟩
theorem ev_isX (hm : X.mg "isinstance" = none) (hT : X.mg y = some (.ref T)) (hf : XOk nm X.K X.mg (fun t => PySem.W.kitOne X.K t (.ref T)) f) (hn : ∀ b, n = some b → PySem.W.kitOne X.K (.type "NoneType") (.ref T) = some b) (ha : EV nm X W e ma) (hg : Gl X "isinstance" := by rfl) (hgT : Gl X y := by rfl) (hdT : (y == ("__debug__" : Str)) = false := by decide)
    (hs : starEach [e, .Name y p2] X.env = (false, eval e X.env) :: starEach [.Name y p2] X.env := by rfl) (hs2 : starEach [.Name y p2] X.env = (false, eval (.Name y p2) X.env) :: starEach [] X.env := by rfl) (hpl : (backTo pos (starEach [.Name y p2] X.env)).any (·.1) = false := by rfl) :
    EV nm X W (.Call (.Name "isinstance" p) [e, .Name y p2] [] pos) (cU (dIsX f n) ma) :=
  ev_of (pe_callB (CallR.or' call_isV call_isi) hg hm (by decide +kernel) (pa_cons pe_wp (pa_cons (pe_glob (v := .ref T) (u := .ref T) hgT hT rfl hdT) pa_nil hs2) hs) (by decide) (by decide) hs hpl) fun env μ σ H ρ G Q R P => by
  refine ha.run env μ σ H ρ G _ R ((Po.bind P).imp (fun z hz v H1 ρ1 G1 e1 R1 r1 => ?_) fun _ _ _ h => h)
  obtain ⟨d, μ1⟩ := z
  dsimp only at hz R1 r1
  unfold dIsX at hz
  split at hz
  · rename_i c ds
    split at hz
    · rename_i b eb
      obtain ⟨C, hC, xc, hk⟩ := hf c b eb
      obtain ⟨a, C', dx, rfl, m, h1, h2, _⟩ := exc_H R1 r1
      rw [hC] at m; cases m
      exact .inl ⟨a, C, dx, .ref T, .ref T, b, rfl, h1, h2, xc, .own T, hk, hz _ H1 ρ1 G1 e1 R1 rfl⟩
    · exact hz.elim
  · split at hz
    · rename_i b
      cases r1
      exact .inr ⟨.non, .ref T, .type "NoneType", .ref T, b, rfl, .own T, .base .non, hn b rfl, hz _ H1 ρ1 G1 e1 R1 rfl⟩
    · exact hz.elim
  · exact hz.elim
theorem ev_isXB (hm : X.mg "isinstance" = none) (hmT : X.mg y = none) (hf : XOk nm X.K X.mg (fun t => PySem.W.kitOne X.K t (.type Tn)) f) (ha : EV nm X W e ma) (hg : Gl X "isinstance" := by rfl) (hgT : Gl X y := by rfl) (hT : bootBuiltins y = some (.type Tn) := by decide +kernel)
    (hnT : y ≠ "__name__" := by decide) (hdT : (y == ("__debug__" : Str)) = false := by decide)
    (hs : starEach [e, .Name y p2] X.env = (false, eval e X.env) :: starEach [.Name y p2] X.env := by rfl) (hs2 : starEach [.Name y p2] X.env = (false, eval (.Name y p2) X.env) :: starEach [] X.env := by rfl) (hpl : (backTo pos (starEach [.Name y p2] X.env)).any (·.1) = false := by rfl) :
    EV nm X W (.Call (.Name "isinstance" p) [e, .Name y p2] [] pos) (cU (dIsX f none) ma) :=
  ev_of (pe_callB call_isV hg hm (by decide +kernel) (pa_cons pe_wp (pa_cons (pe_bltn (v := .ty Tn) hgT hmT hT rfl hnT hdT) pa_nil hs2) hs) (by decide) (by decide) hs hpl) fun env μ σ H ρ G Q R P => by
  refine ha.run env μ σ H ρ G _ R ((Po.bind P).imp (fun z hz v H1 ρ1 G1 e1 R1 r1 => ?_) fun _ _ _ h => h)
  obtain ⟨d, μ1⟩ := z
  dsimp only at hz R1 r1
  unfold dIsX at hz
  split at hz
  · rename_i c ds
    split at hz
    · rename_i b eb
      obtain ⟨C, hC, xc, hk⟩ := hf c b eb
      obtain ⟨a, C', dx, rfl, m, h1, h2, _⟩ := exc_H R1 r1
      rw [hC] at m; cases m
      exact ⟨a, C, dx, .ty Tn, .type Tn, b, rfl, h1, h2, xc, .ty Tn, hk, hz _ H1 ρ1 G1 e1 R1 rfl⟩
    · exact hz.elim
  · split at hz
    · rename_i h; cases h
    · exact hz.elim
  · exact hz.elim
inductive ClsN (X : Cx) : List Expr → List V → List Value → Prop where
  | nil : ClsN X [] [] []
  | cons {y : Str} {p : Pos} {T : Addr} {es : List Expr} {vs : List V} {us : List Value} (hm : X.mg y = some (.ref T)) (h : ClsN X es vs us) (hg : Gl X y := by rfl) (hd : (y == ("__debug__" : Str)) = false := by decide) (hs : starEach (.Name y p :: es) X.env = (false, eval (.Name y p) X.env) :: starEach es X.env := by rfl) : ClsN X (.Name y p :: es) (.ref T :: vs) (.ref T :: us)
theorem ClsN.pa {es : List Expr} {vs : List V} {us : List Value} (h : ClsN X es vs us) : PA X es (fun _ H Q => Q vs H) := by
  induction h with
  | nil => exact pa_nil
  | cons hm h hg hd hs ih => exact pa_cons (pe_glob (v := .ref _) hg hm rfl hd) ih hs
theorem ClsN.cls {es : List Expr} {vs : List V} {us : List Value} (h : ClsN X es vs us) : Paired ClsV vs us := by
  induction h with
  | nil => exact .nil
  | cons hm h hg hd hs ih => exact .cons (.own _) ih
theorem ClsN.len {es : List Expr} {vs : List V} {us : List Value} (h : ClsN X es vs us) : vs.length = es.length := by
  induction h with
  | nil => rfl
  | cons hm h hg hd hs ih => rw [List.length_cons, List.length_cons, ih]
noncomputable def dXf (t : List (Nat × Nat)) : F1 := fun d μ => match d with
  | .exc c ds => match t.lookup c with
    | some i => match ds[i]? with
      | some x => .ok (x, μ)
      | none => .no
    | none => .no
  | _ => .no
noncomputable def XfOk (nm : Nm) (K : PySem.W.Frag) (mg : Str → Option Value) (x : Str) (t : List (Nat × Nat)) : Prop := ∀ c i, t.lookup c = some i → ∃ C, mg (nm.cn c) = some (.ref C) ∧ Xc K C ∧ PySem.W.findIn K (.ref C) x = some none ∧ (nm.cf c)[i]? = some x ∧ (nm.cf c).Nodup
theorem xfok_nil {K : PySem.W.Frag} {mg : Str → Option Value} {x : Str} : XfOk nm K mg x [] := fun c i h => by cases h
theorem xfok_cons {K : PySem.W.Frag} {mg : Str → Option Value} {x : Str} {c i : Nat} {t : List (Nat × Nat)} {C : Addr} (hm : mg (nm.cn c) = some (.ref C)) (k : Xc K C) (hn : PySem.W.findIn K (.ref C) x = some none) (h : XfOk nm K mg x t) (hi : (nm.cf c)[i]? = some x := by rfl) (hd : (nm.cf c).Nodup := by decide +kernel) : XfOk nm K mg x ((c, i) :: t) := fun d j e => by
  rw [List.lookup_cons] at e
  split at e
  · rename_i q
    cases e
    rw [beq_iff_eq] at q; subst q
    exact ⟨C, hm, k, hn, hi, hd⟩
  · exact h d j e
theorem pe_xfV {te : L2.TE} {x : Str} (he : PE X e te) (hb : attributeBase e x X.env (eval e X.env) = eval e X.env := by rfl) :
    PE X (.Attribute e x pos) (fun σ H Q => te σ H fun v H1 => ∃ (a C d : Addr) (fs : List (Str × V)) (u : V), v = .ref a ∧ H1 a = some (ExV a C (some d)) ∧ H1 d = some (.xd fs) ∧ Xc X.K C ∧ PySem.W.findIn X.K (.ref C) x = some none ∧ fs.lookup x = some u ∧ Q u H1) := by
  refine ⟨fun pins s σ H Q I h => ?_⟩
  refine attr_of hb (thn (he.run pins s σ H _ I h) fun u s1 hh => ?_)
  obtain ⟨v, H1, I1, rx, a, C, d, fs, w', rfl, ha, hd, T, hno, l, q⟩ := hh
  obtain rfl : u = Value.ref a := rx
  obtain ⟨oe, od, J, hod⟩ := inst_ex I1 ha (fun d' e' => by cases e'; exact ⟨fs, hd⟩)
  obtain ⟨o, mA, rfl, hl, hr⟩ := hod d fs rfl hd
  obtain ⟨u, hu, ru⟩ := RelO.some_of (v := w') (o := mA x) (by rw [← l]; exact hr x)
  exact HandSPX.exc_get I1.kIn J T.hg T.hk T.hs (PySem.W.findObj_own T.hd hno rfl (by rw [hl, hu])) (handed_of ru) ⟨w', H1, I1.tok _, ru, q⟩
theorem ev_xf {x : Str} {t : List (Nat × Nat)} (ht : XfOk nm X.K X.mg x t) (ha : EV nm X W e ma) (hb : attributeBase e x X.env (eval e X.env) = eval e X.env := by rfl) : EV nm X W (.Attribute e x pos) (cU (dXf t) ma) :=
  ev_of (pe_xfV pe_wp hb) fun env μ σ H ρ G Q R P => by
  refine ha.run env μ σ H ρ G _ R ((Po.bind P).imp (fun y hy v H1 ρ1 G1 e1 R1 r1 => ?_) fun _ _ _ h => h)
  obtain ⟨d, μ1⟩ := y
  dsimp only at hy R1 r1
  unfold dXf at hy
  split at hy
  · rename_i c ds
    split at hy
    · rename_i i hi
      obtain ⟨C, hC, xc, hn, hx, nd⟩ := ht c i hi
      split at hy
      · rename_i z hz
        obtain ⟨a, C', dx, rfl, m, h1, h2, h3⟩ := exc_H R1 r1
        rw [hC] at m; cases m
        rcases h3 with ⟨rfl, _⟩ | ⟨d', vs, rfl, h4, r⟩
        · cases hz
        · obtain ⟨u, hu, ru⟩ := r.get hz
          exact ⟨a, C, d', _, u, rfl, h1, h4, xc, hn, zip_lookup nd hx hu, hy u H1 ρ1 G1 e1 R1 ru⟩
      · exact hy.elim
    · exact hy.elim
  · exact hy.elim
end
end Lr
namespace Lr
open PySem L2 PySem.Spec
open PyProof.Rows hiding St
noncomputable def flatD : D → Bool
  | .non => true
  | .bl _ => true
  | .int _ => true
  | .str _ => true
  | _ => false
theorem reps_flat2 {t : Ct} {G G' : Hp} {ρ ρ' : List Addr} : ∀ (fs : List D) (us : List V), fs.all flatD = true → reps t G ρ fs us → reps t G' ρ' fs us
  | [], _, _, h => h
  | d :: ds, _, hf, ⟨v, r, e, h1, h2⟩ => by
    rw [List.all_cons, Bool.and_eq_true] at hf
    refine ⟨v, r, e, ?_, reps_flat2 ds r hf.2 h2⟩
    have hd := hf.1
    cases d <;> first | exact h1 | (simp [flatD] at hd)
noncomputable def exY (μ : Mu) (v : Mu → D → Option D) (r : Res (D × Mu)) : Res (D × Mu) := match r with
  | .ok r => match v r.2 r.1 with
    | some d => .ok (d, μ)
    | none => .no
  | .ex c fs _ => if fs.all flatD = true then .ex c fs μ else .no
  | .no => .no
noncomputable def pureY (F : GF) : FN := fun ds μ => if nrs ds then exY μ vw (F ds []) else match vws μ ds with
  | some ds' => exY μ vf (F ds' [])
  | none => .no
section
variable {nm : Nm} {X : Cx} {W : XW} {n : Nat} {F : GF}
theorem xfs_flat {t : Ct} {G G' : Hp} {ρ ρ' : List Addr} {H : Hp} {c : Nat} {fs : List D} {dx : Option Addr} (hf : fs.all flatD = true) (hG : ∀ d o, G d = some (.xd o) → G' d = some (.xd o)) (h : xfs t G ρ H c fs dx) : xfs t G' ρ' H c fs dx := by
  rcases h with h | ⟨d, us, h1, h2, h3, h4⟩
  · exact .inl h
  · exact .inr ⟨d, us, h1, hG _ _ h2, h3, reps_flat2 fs us hf h4⟩
theorem cell_xd {t : Ct} {G : Hp} {ρ : List Addr} {H : Hp} {a : Addr} {fs : List (Str × V)} : ∀ {d : D}, cell t G ρ H a d → H a ≠ some (.xd fs)
  | .lst ds, ⟨vs, e, r⟩ => fun h => by rw [e] at h; cases h
  | .dic kvs, ⟨ks, e, r⟩ => fun h => by rw [e] at h; cases h
  | .dit kvs, ⟨ks, e, r⟩ => fun h => by rw [e] at h; cases h
  | .obj c ds, ⟨C, dx, vs, m, e, l, r⟩ => fun h => by rw [e] at h; cases h
  | .din kvs, ⟨xs, e, _⟩ => fun h => by rw [e] at h; cases h
open Classical in
theorem callOkX_pureY : CallOkX nm X W n F (pureY F) := by
  intro env μ σ H ρ G Q ds vs R r hn P
  unfold pureY at P
  split at P
  · rename_i hr
    refine ⟨G, [], [], ds, hn, Rel.empty R.sub R.tab, reps_nr (Same.refl _) ds vs hr r, ?_⟩
    have same : ∀ {G' H' : Hp} {ρ' : List Addr} {μ' : Mu}, Rel (ct nm X) G' ρ' [] μ' [] H' → (∀ a o, G' a = some o → a ∈ ρ → ∃ o', H a = some o' ∧ G a = some o) → Same G' (backG ρ ρ' H' G') := fun R' b5 a o h => by
      have n1 : a ∉ ρ := fun z => by
        obtain ⟨_, _, y⟩ := b5 a o h z
        rw [R.gn a z] at y; cases y
      have n2 : a ∉ _ := fun z => by rw [R'.gn a z] at h; cases h
      unfold backG
      rw [if_neg n1, if_neg n2]
      exact h
    unfold exY at P
    split at P
    · rename_i rr q
      rw [q]
      split at P
      · rename_i d hd
        intro v H' ρ' G' e R' rv
        obtain ⟨b1, b2, b3, b4, b5⟩ := back R (Same.refl _) (fun a o h => .inl h) e R'
        exact P v H' ρ _ b1 b2 (vw_ok R' (same R' b5) b4 rv hd)
      · exact P.elim
    · rename_i c fs μ' q
      rw [q]
      split at P
      · rename_i hz
        intro C dx H' ρ' G' mm e R' xf
        obtain ⟨b1, b2, b3, b4, b5⟩ := back R (Same.refl _) (fun a o h => .inl h) e R'
        exact P C dx H' ρ _ mm b1 b2 (xfs_flat hz (fun d o h => same R' b5 d _ h) xf)
      · exact P.elim
    · exact P.elim
  · split at P
    · rename_i ds' e1
      have s1 : Same G (fun b => if b ∈ ρ then H b else G b) := fun a o h => by
        show (if a ∈ ρ then H a else G a) = _
        split
        · exact R.sub a o h
        · exact h
      have s2 : Same (fun b => if b ∈ ρ then H b else G b) H := fun a o h => by
        have h : (if a ∈ ρ then H a else G a) = some o := h
        split at h
        · exact h
        · exact R.sub a o h
      refine ⟨fun b => if b ∈ ρ then H b else G b, [], [], ds', by rw [vws_len e1, hn], Rel.empty s2 (tabs_of R.tab s1 (.refl _) R.nb), vws_ok R s1 (fun a ha o h => by show (if a ∈ ρ then H a else G a) = _; rw [if_pos ha]; exact h) r e1, ?_⟩
      have hb : ∀ a o, (fun b => if b ∈ ρ then H b else G b) a = some o → G a = some o ∨ a ∈ ρ := fun a o h => by
        have h : (if a ∈ ρ then H a else G a) = some o := h
        split at h
        · rename_i ha; exact .inr ha
        · exact .inl h
      unfold exY at P
      split at P
      · rename_i rr q
        rw [q]
        split at P
        · rename_i d hd
          intro v H' ρ' G' e R' rv
          obtain ⟨b1, b2, b3, b4, b5⟩ := back R s1 hb e R'
          refine P v H' ρ _ b1 b2 ?_
          refine vf_ok R' (fun a to tq h => b3 a to h fun z => ?_) b4 rv hd
          obtain ⟨o', h1, h2⟩ := b5 a _ h z
          have h2 : (if a ∈ ρ then H a else G a) = some to := h2
          rw [if_pos z] at h2
          obtain ⟨m, hm, em⟩ := List.getElem_of_mem z
          exact tq_cell (R.cells m a (μ[m]'(by rw [← R.len]; exact hm)) (by rw [List.getElem?_eq_getElem hm, em]) (by simp)) tq h2
        · exact P.elim
      · rename_i c fs μ' q
        rw [q]
        split at P
        · rename_i hz
          intro C dx H' ρ' G' mm e R' xf
          obtain ⟨b1, b2, b3, b4, b5⟩ := back R s1 hb e R'
          refine P C dx H' ρ _ mm b1 b2 (xfs_flat hz (fun d o h => b3 d _ h fun z => ?_) xf)
          obtain ⟨o', h1, h2⟩ := b5 d _ h z
          have h2 : (if d ∈ ρ then H d else G d) = some (.xd o) := h2
          rw [if_pos z] at h2
          obtain ⟨m, hm, em⟩ := List.getElem_of_mem z
          exact cell_xd (R.cells m d (μ[m]'(by rw [← R.len]; exact hm)) (by rw [List.getElem?_eq_getElem hm, em]) (by simp)) h2
        · exact P.elim
      · exact P.elim
    · exact P.elim
end
section
variable {X : Cx} {CX : CXT} {k : Nat} {f C : Addr} {fd : FuncData} {ps : List Str} {sp : Sp} {E : L2.St → XK} {x m : Str} {p pos apos : Pos} {e o : Expr} {es : List Expr} {ta : L2.TE} {t : L2.TA}
end
section
variable {nm : Nm} {X : Cx} {W : XW} {n c : Nat} {C : Addr} {F : GF}
end
section
variable {nm : Nm} {X : Cx} {W : XW} {e o : Expr} {es : List Expr} {pos p apos : Pos} {ms : MA} {ma : M} {k j n c : Nat} {C : Addr} {F : GF} {x m : Str} {fn : FN}
theorem ev_callY (D : DefOkX X.prog X.w X.K X.mg X.base nm x k n F) (hc : CallOkX nm X W n F fn) (tk : L2N.Takes X W) (hr : Room j X.A) (ha : AV nm X W (e :: es) ms) (hj : k ≤ j := by decide) (hn : es.length + 1 = n := by rfl)
    (hg : Gl X x := by rfl) (hdb : (x == ("__debug__" : Str)) = false := by decide) (he : starEach (e :: es) X.env = (false, eval e X.env) :: starEach es X.env := by rfl) (hpl : (backTo pos (starEach es X.env)).any (·.1) = false := by rfl) :
    EV nm X W (.Call (.Name x p) (e :: es) [] pos) (cF fn ms) := by
  obtain ⟨f, fd, ps, Fk, hm, hk, hb⟩ := D
  exact ev_callX Fk hc tk (hr.mono hj) hm hk hb ha hn hg hdb he hpl
end
theorem passes_cx {P : Program} {w : World} {K : PySem.W.Frag} {mg : Str → Option Value} {base : Heap} {N : List Str} {qual : Str} {scope : Scope} {f : Addr} {cdv : Value} {A : Around} {outer : List Env} {s : Shared} {H : Hp} {E : XK} :
    PassesOwn (model P w) (cxOf (L2N.CX P w) P w K mg base N qual scope f cdv A outer s H E).A (cxOf (L2N.CX P w) P w K mg base N qual scope f cdv A outer s H E).env (cxOf (L2N.CX P w) P w K mg base N qual scope f cdv A outer s H E).xe := passes_of rfl
end Lr
namespace Lr
open PySem L2 PySem.Spec
open PyProof.Rows hiding St
noncomputable def XInitSrc (K : PySem.W.Frag) (C : Addr) (qual : Str) (st : Stmt) : Prop := ∃ f fd, Fun K "__init__" qual st f fd ∧ PySem.W.findIn K (.ref C) "__init__" = some (some (.ref f)) ∧ PySem.W.typeIn K (.ref f) = some (.type "function")
theorem xinitSrc_mk {K : PySem.W.Frag} {C f : Addr} {qual : Str} {st : Stmt} (a : PySem.W.findIn K (.ref C) "__init__" = some (some (.ref f))) (i : PySem.W.typeIn K (.ref f) = some (.type "function")) {oc : Value} {od an : Option Addr} {osl : Array (Option Value)} {kV doc pm cdv ct : Value}
    (l : K.lookup f = some ⟨oc, od, .func (PySem.W.fnOf "__init__" qual (defArgs st) (defBody st) (defScope st) .none kV doc pm an cdv ct), osl⟩)
    (c : PySem.W.codeIn K cdv qual = true) (k : PySem.W.keepIn K (.ref f) = true) : XInitSrc K C qual st := ⟨f, _, fun_mk l c k, a, i⟩
theorem oexC_mk {K : PySem.W.Frag} {C : Addr} {nm q : Str} {N : Addr} {bs bm : List Value} {sn : List Str} {sub : List Value} {ab : Bool} {col : Option Bool} {dd : Option Addr} {k0 k1 k2 k3 k5 : Option Value}
    (l : K.lookup C = some (excClassObj nm q C N bs bm true sn sub ab col dd k0 k1 k2 k3 k5 "ValueError.__new__")) (r : PySem.HandSPX.refsVE bm = true) (sa : PySem.W.findIn K (.ref C) "__setattr__" = some (some (.builtin "object.__setattr__"))) (x : Xc K C) : OexC K C :=
  ⟨⟨nm, q, N, bs, bm, sn, sub, ab, col, dd, k0, k1, k2, k3, k5, l, r⟩, sa, x.hs, x.tm, x.kp⟩
noncomputable def RsI1 (P : Program) (w : World) (K : PySem.W.Frag) (mg : Str → Option Value) (base : Heap) (C : Addr) (f1 : Str) : Prop :=
  ∃ fI fd y, FnOk P w K mg base CX0 1 fI fd ["self", y] (spI1 C f1) ∧ PySem.W.findIn K (.ref C) "__init__" = some (some (.ref fI)) ∧ PySem.W.typeIn K (.ref fI) = some (.type "function") ∧ Binds K fd ["self", y] [] ∧ OexC K C
section
variable {P : Program} {w : World} {K : PySem.W.Frag} {mg : Str → Option Value} {base : Heap} {qual : Str} {st : Stmt} {y z f1 f2 m : Str} {R C : Addr} {p1 p2 p3 p4 p5 p6 p7 p8 p9 pos q1 q2 q3 q4 : Pos} {j : Nat}
theorem rsI1_ok (S : XInitSrc K C qual st) (sc : FnScope ["self", y] ["self", y] (defScope st)) (bi : Bi st "__init__" qual ["self", y]) (hb : defBody st = [rkCall m j p1 p2 p3 p4 p5 p6, setFl f1 y q1 q2 q3 q4]) (va : Vis (defScope st) "self") (vy : Vis (defScope st) y)
    (dy : (y == ("__debug__" : Str)) = false) (cy : (y == ("__classdict__" : Str)) = false)
    (hg : ∀ q n c v, (envOfC q (defScope st) n c v).kindOf "RackError" = some .globalImplicit) (hev : ∀ q n c v, RkEv (envOfC q (defScope st) n c v) "RackError" [.Name "self" p3, .Constant (.str m) j p4] p1 p2 p5) (hm : mg "RackError" = some (.ref R)) (k : RkC K R) (T : OexC K C) (n1 : PySem.W.findIn K (.ref C) f1 = some none) : RsI1 P w K mg base C f1 := by
  obtain ⟨f, fd, F, a, i⟩ := S
  exact ⟨f, fd, y, exi1 F sc hb va vy dy cy hg hev hm k T n1, a, i, F.binds bi, T⟩
end
section
variable {nm : Nm} {X : Cx} {W : XW} {e e2 : Expr} {ms : MA} {x f1 f2 : Str} {C : Addr} {p pos pos' : Pos} {c j : Nat}
theorem sv_raiseJ1 (hc : X.calm = true) (tk : L2N.Takes X W) (D : RsI1 X.prog X.w X.K X.mg X.base C f1) (hr : Room j X.A) (hm : X.mg x = some (.ref C)) (ha : AV nm X W [e] ms) (hj : 2 ≤ j := by decide) (hn : nm.cn c = x := by rfl) (hf : nm.cf c = [f1] := by rfl) (hg : Gl X x := by rfl) (hdb : (x == ("__debug__" : Str)) = false := by decide) (he : starEach [e] X.env = (false, eval e X.env) :: starEach [] X.env := by rfl) :
    SV nm X W (.Raise (some (.Call (.Name x p) [e] [] pos)) none pos') (sRaiseI c ms) := by
  obtain ⟨fI, fd, y, F1, iC, tI, hb, T⟩ := D
  exact sv_raiseI1 hc tk T iC tI F1 hb (hr.mono hj) hm hn hf ha hg hdb he
end
noncomputable def catOf (l : List (Nat × Bool)) : Nat → Option Bool := fun c => l.lookup c
noncomputable def CatOk (nm : Nm) (K : PySem.W.Frag) (mg : Str → Option Value) (c0 : Value) (cat : Nat → Option Bool) : Prop := ∀ c b, cat c = some b → ∀ C, mg (nm.cn c) = some (.ref C) → PySem.W.exmOne K (.ref C) c0 = some b
theorem cat_nil {nm : Nm} {K : PySem.W.Frag} {mg : Str → Option Value} {c0 : Value} : CatOk nm K mg c0 (catOf []) := fun c b h => by cases h
theorem cat_cons {nm : Nm} {K : PySem.W.Frag} {mg : Str → Option Value} {c0 : Value} {c : Nat} {b : Bool} {l : List (Nat × Bool)} {C : Addr} (hm : mg (nm.cn c) = some (.ref C)) (hb : PySem.W.exmOne K (.ref C) c0 = some b) (h : CatOk nm K mg c0 (catOf l)) : CatOk nm K mg c0 (catOf ((c, b) :: l)) := fun d b' e C' m => by
  unfold catOf at e
  rw [List.lookup_cons] at e
  split at e
  · rename_i q
    cases e
    rw [beq_iff_eq] at q; subst q
    rw [hm] at m; cases m
    exact hb
  · exact h d b' e C' m
theorem names_own {X : Cx} {x : Str} {C : Addr} (hm : X.mg x = some (.ref C)) (hg : Gl X x := by rfl) (hd : (x == ("__debug__" : Str)) = false := by decide) : Names X x (.ref C) := ⟨hg, hd, .inl hm⟩
end Lr
namespace Lr
open PySem L2 PySem.Spec
open PyProof.Rows hiding St
section
variable {nm : Nm} {X : Cx} {W : XW} {a : Expr} {ma : M} {p p2 q pos : Pos}
end
section
variable {nm : Nm} {X : Cx} {W : XW}
end
noncomputable def mPopAt : FM := fun d ds μ => lst1 d μ fun n xs => match ds with
  | [.int i] => if -(2 ^ 63) ≤ i ∧ i < 2 ^ 63 then match seqIndex? i xs.length with
    | some k => match xs[k]? with
      | some y => .ok (y, μ.set n (.lst (xs.eraseIdx k)))
      | none => .no
    | none => .no
    else .no
  | _ => .no
section
variable {nm : Nm} {X : Cx} {W : XW}
theorem reps.erase {t : Ct} {G : Hp} {ρ : List Addr} : ∀ {ds : List D} {vs : List V} (i : Nat), reps t G ρ ds vs → reps t G ρ (ds.eraseIdx i) (vs.eraseIdx i)
  | [], _, _, h => by cases h; simp [reps]
  | d :: ds, _, 0, ⟨v, r, e, h1, h2⟩ => by subst e; exact h2
  | d :: ds, _, i + 1, ⟨v, r, e, h1, h2⟩ => by subst e; exact ⟨v, r.eraseIdx i, rfl, h1, reps.erase i h2⟩
theorem opm_popAt : OpM nm X W mPopAt rPopAt := by
  intro env μ σ H ρ G Q d ds v vs R rv r P
  unfold mPopAt lst1 at P
  split at P
  · split at P
    · rename_i n _ xs q
      obtain ⟨a, ws, rfl, ea, h, rs⟩ := cell_lst R rv q
      dsimp only at P
      split at P
      · rename_i i
        obtain ⟨w, r0, rfl, rw', hr⟩ := r
        cases hr
        cases rw'
        split at P
        · rename_i hz
          split at P
          · rename_i k hk
            split at P
            · rename_i y hy
              obtain ⟨u, hu, ru⟩ := rs.get hy
              obtain ⟨R2, e2⟩ := R.setCell (o := .lst (ws.eraseIdx k)) (d := .lst (xs.eraseIdx k)) ea ⟨_, upd_same, rs.erase k⟩
              exact ⟨a, ws, i, k, u, rfl, rfl, h, hz.1, hz.2, by rw [rs.length]; exact hk, hu, P u _ ρ G e2 R2 (e2.rep ru)⟩
            · exact P.elim
          · exact P.elim
        · exact P.elim
      · exact P.elim
    · exact P.elim
  · exact P.elim
end
section
variable {x : Bool} {α : Type} {k : α → D}
end
noncomputable def R.fl {α : Type} (r : R α) : R α := match r with
  | .ex c ds => if ds.all flatD = true then .ex c ds else .no
  | r => r
section
variable {S α β A ρ N L : Type} {x q : Bool} {γ : Sls S} {ms : MA} {ka : A → List D} {kr : ρ → D} {G : (β : Type) → S → (A → R β) → R β} {F : GF} {f : A → R ρ} {Qn : S → N → Ev → Mu → Prop} {Ql : S → L → Ev → Mu → Prop} {Qr : ρ → D → Mu → Prop} {Qx : S → Ev → Mu → Prop}
theorem td_callY (ha : TAD x γ ms ka G) (hf : TF q true ka kr F f) : TD x γ (cF (pureY F) ms) kr (fun s => G ρ s fun a => (f a).fl) := fun s e μ E => by
  dsimp only
  rcases ha s e μ E with ⟨a, h1, h2, h3⟩ | ⟨y, fs, h1, h3⟩ | h3
  · rw [h3]
    have z := hf a
    cases w : f a with
    | ok r =>
      rw [w] at z
      obtain ⟨d, μ', e1, e2, _⟩ := z
      show cF (pureY F) ms e μ = _
      unfold cF
      rw [h1]
      show pureY F (ka a) μ = _
      unfold pureY exY
      rw [if_pos h2, e1]
      dsimp only
      rw [e2]
    | ex c ds =>
      rw [w] at z
      unfold R.fl
      dsimp only
      split
      · rename_i hfl
        intro hx
        obtain ⟨μ', e1⟩ := z rfl
        unfold cF
        rw [h1]
        show pureY F (ka a) μ = _
        unfold pureY exY
        rw [if_pos h2, e1]
        dsimp only
        rw [if_pos hfl]
      · trivial
    | no => trivial
  · rw [h3]
    intro hx
    unfold cF
    rw [h1 hx]
    rfl
  · rw [h3]; trivial
theorem tb_raiseI (c : Nat) (ha : TAD x γ ms ka G) (hx : x = true → ∀ s e μ, Enc γ s e μ → Qx s e μ) : TB x γ (sRaiseI c ms) Qn Ql Qr Qx (fun s => G (Fl N L ρ) s fun a => .ex c (ka a).reverse) := fun s e μ E => by
  dsimp only
  rcases ha s e μ E with ⟨a, h1, h2, h3⟩ | ⟨y, fs, h1, h3⟩ | h3
  · rw [h3]
    intro h
    refine ⟨e, μ, ?_, hx h s e μ E⟩
    unfold sRaiseI
    rw [h1]; rfl
  · rw [h3]
    intro h
    refine ⟨e, μ, ?_, hx h s e μ E⟩
    unfold sRaiseI
    rw [h1 h]; rfl
  · rw [h3]; trivial
end
end Lr
namespace Lr
theorem nn_raiseI {c : Nat} {ms : MA} : NoNx (sRaiseI c ms) := fun e μ e' μ' z => by
  unfold sRaiseI eThen at z
  cases q : ms e μ <;> rw [q] at z <;> cases z
end Lr
namespace Lr
open PySem L2
inductive FV where
  | int (i : Int) | str (x : List Nat)
  deriving DecidableEq
noncomputable def kFV : FV → D
  | .int i => .int i
  | .str x => .str x
noncomputable abbrev XV := Nat × List FV
noncomputable def kExc : XV → D := fun p => .exc p.1 (p.2.map kFV)
noncomputable def fvOf : List D → Option (List FV)
  | [] => some []
  | .int i :: r => (fvOf r).map (.int i :: ·)
  | .str x :: r => (fvOf r).map (.str x :: ·)
  | _ => none
noncomputable instance : Kn kFV .o := ⟨fun a => by cases a <;> rfl, fun a μ m h => by
  cases a
  · exact Kn.il (k := D.int) _ μ m h
  · exact Kn.il (k := D.str) _ μ m h⟩
noncomputable instance : Kf kFV .o := ⟨fun a μ m h => by
  cases a
  · exact Kf.il (k := D.int) _ μ m h
  · exact Kf.il (k := D.str) _ μ m h⟩
noncomputable instance : Kv kFV := kv_nc fun a => by cases a <;> rfl
theorem il_exc {al : Bool} {μ : Mu} {ds : List D} {N m c : Nat} (h : ∀ m, N ≤ m → mapO (inl al μ m) ds = some ds) (hm : N + 1 ≤ m) : inl al μ m (.exc c ds) = some (.exc c ds) := by
  obtain ⟨j, rfl⟩ : ∃ j, m = j + 1 := ⟨m - 1, by first | omega | (simp only [Dt.n] at *; omega)⟩
  show (mapO (inl al μ j) ds).map (D.exc c) = _
  rw [h j (Nat.le_of_succ_le_succ hm)]; rfl
noncomputable instance : Kn kExc (.s .o) := ⟨fun a => by show nrs (a.2.map kFV) = true; exact nrs_map fun b _ => Kn.nr b, fun a μ m h => il_exc (fun m hm => mapO_map fun b => Kn.il b μ m hm) h⟩
noncomputable instance : Kf kExc (.s .o) := ⟨fun a μ m h => il_exc (fun m hm => mapO_map fun b => Kf.il b μ m hm) h⟩
noncomputable instance : Kv kExc := kv_nc fun _ => rfl
noncomputable instance : Nnk kExc := ⟨fun a h => by cases h⟩
theorem kopt_nc {α : Type} {k : α → D} (h : ∀ a, isCl (k a) = false) (a : Option α) : isCl (kOpt k a) = false := by cases a <;> first | rfl | exact h _
noncomputable instance : Kv (kOpt kExc) := kv_nc (kopt_nc fun _ => rfl)
section
variable {x : Bool} {α : Type} {k : α → D}
noncomputable def remR (xs : List (List Nat)) (v : List Nat) : R (List (List Nat)) := if v ∈ xs then .ok (xs.erase v) else .no
theorem texts_map (ws : List (List Nat)) : textsOf (ws.map D.str) = some ws := by
  induction ws with
  | nil => rfl
  | cons w r ih => simp only [List.map_cons, textsOf, ih, Option.map_some]
theorem o_remove : OpMD1 x mRemove (kLs D.str) (fun a : List Nat × Unit => [D.str a.1]) (fun c a => remR c a.1) := fun c a μ n h => by
  unfold remR
  dsimp only
  split
  · rename_i hm
    refine ⟨.non, ?_⟩
    show mRemove (.ref n) [.str a.1] μ = _
    unfold mRemove
    simp only [h, kLs, texts_map]
    rw [if_pos hm]
  · trivial
end
end Lr
namespace Lr
open PySem L2 PySem.Spec
open PyProof.Rows hiding St
section
variable {nm : Nm} {X : Cx} {W : XW}
end
section
variable {A α ρ : Type} {x q : Bool} {ka : A → List D} {kr : ρ → D} {F : GF} {f : A → R ρ} {a : A} {μ : Mu}
theorem pureY_sim (hf : TF q true ka kr F f) (hn : nrs (ka a) = true) : Sim true ((f a).fl) (fun r => pureY F (ka a) μ = .ok (kr r, μ)) (fun c ds => pureY F (ka a) μ = .ex c ds μ) := by
  have z := hf a
  unfold pureY
  rw [if_pos hn]
  cases w : f a with
  | ok r =>
    rw [w] at z
    obtain ⟨d, μ', e1, e2, _⟩ := z
    show exY μ vw (F (ka a) []) = _
    unfold exY
    rw [e1]
    dsimp only
    rw [e2]
  | ex c ds =>
    rw [w] at z
    unfold R.fl
    dsimp only
    split
    · rename_i hfl
      intro hx
      obtain ⟨μ', e1⟩ := z rfl
      unfold exY
      rw [e1]
      dsimp only
      rw [if_pos hfl]
    · trivial
  | no => trivial
end
noncomputable def R.caught (cat : Nat → Option Bool) (r : R Unit) : R (Option XV) := match r.fl with
  | .ok _ => .ok none
  | .ex c ds => match cat c with
    | some true => match fvOf ds with
      | some fs => .ok (some (c, fs))
      | none => .no
    | _ => .no
  | .no => .no
end Lr
namespace Lr
open PySem L2
section
variable {X M ρ α : Type}
noncomputable def lackF : List (List Nat) → List (List Nat) → Option (List Nat)
  | _, [] => none
  | l, t :: ts => if t ∈ l then lackF (l.erase t) ts else some t
theorem lackF_cons {l ts : List (List Nat)} {t : List Nat} : lackF l (t :: ts) = if t ∈ l then lackF (l.erase t) ts else some t := by rw [lackF]
noncomputable def restF : List (List Nat) → List (List Nat) → List (List Nat)
  | l, [] => l
  | l, t :: ts => restF (l.erase t) ts
theorem take_loop {ρ : Type} {b : List (List Nat) → X → R (Fl (List (List Nat)) (List (List Nat)) ρ)} {q : List Nat → R (Fl (List (List Nat)) (List (List Nat)) ρ)} {q' : List Nat → R (Fl (List (List Nat)) M ρ)} (tl : X → List Nat) (hq : ∀ x, (∀ g : Fl (List (List Nat)) (List (List Nat)) ρ → R (Fl (List (List Nat)) M ρ), (q x).bind g = q' x) ∨ (∃ r, q x = .ok (.rt r) ∧ q' x = .ok (.rt r))) :
    ∀ {xs : List X} {l : List (List Nat)}, (∀ x ∈ xs, ∀ l, b l x = if tl x ∈ l then .ok (.nx (l.erase (tl x))) else q (tl x)) → (forL b xs l : R (Fl (List (List Nat)) M ρ)) = match lackF l (xs.map tl) with | some t => q' t | none => .ok (.nx (restF l (xs.map tl)))
  | [], _, _ => rfl
  | x :: xs, l, h => by
    unfold forL
    rw [h x List.mem_cons_self]
    by_cases c : tl x ∈ l
    · rw [if_pos c, List.map_cons]
      show forL b xs (l.erase (tl x)) = _
      rw [take_loop tl hq fun y hy => h y (List.mem_cons_of_mem _ hy)]
      rw [lackF_cons, if_pos c]; rfl
    · rw [if_neg c, List.map_cons]
      rw [lackF_cons, if_neg c]
      rcases hq (tl x) with e | ⟨r, e1, e2⟩
      · exact e _
      · rw [e1]; exact e2.symm
end
noncomputable instance : Eqk (kOpt D.str) .o := ⟨fun a m h => by cases a with
    | none => exact pd_non
    | some a => exact Eqk.pd (k := D.str) a m h, fun a b => by
  cases a with
  | none => cases b with
    | none => rfl
    | some b => simp only [kOpt, toP, PyData.eqv]; rfl
  | some a => cases b with
    | none => simp only [kOpt, toP, PyData.eqv]; rfl
    | some b =>
      have := Eqk.eq (k := D.str) a b
      show PyData.eqv (toP (D.str a)) (toP (D.str b)) = _
      rw [this]; simp, fun a μ m h => by
  cases a with
  | none => exact ile_z (P := fun m => inlE μ m .non = some .non) rfl (fun _ => rfl) m
  | some a => exact Eqk.il (k := D.str) a μ m h⟩
noncomputable instance : Lsk (kOpt D.str) := ⟨fun a h => by cases a <;> cases h⟩
end Lr
namespace Lr
open PySem PySem.Spec PyProof.Rows L2
section
variable {nm : Nm} {X : Cx} {W : XW} {it : Expr} {es : List Expr} {sts : List Stmt} {pos pt : Pos} {mi : MI} {m : SM} {Ts : List Tg} {k : Nat}
end
end Lr
namespace Lr
open PySem L2
section
variable {S C : Type} {γ : Sls S} {u : S → C → S}
end
section
variable {S N L ρ : Type} {γ : Sls S} {s : S} {e : Ev} {μ : Mu}
theorem Enc.place (h : Enc γ s e μ) {i n : Nat} {f : S → D} {o : Option Nat} (hi : nth γ i = .cel o f) (a : e[i]? = some (some (.ref n))) (b : μ[n]? = some (f s)) : Enc (put γ i (.cel (some n) f)) s e μ := by
  refine ⟨by rw [put_len]; exact h.len, fun j => ?_, fun x y m cx cy ex ey => ?_⟩
  · rw [nth_put]
    split
    · rename_i hj
      rw [hj.1]
      exact ⟨a, b⟩
    · exact h.ok j
  · have key : ∀ c, (nth (put γ i (.cel (some n) f)) c).isC = true → (nth γ c).isC = true := fun c hc => by
      rw [nth_put] at hc
      split at hc
      · rename_i hh; rw [hh.1, hi]; rfl
      · exact hc
    exact h.dj x y m (key x cx) (key y cy) ex ey
end
end Lr
namespace Lr
open PySem L2 PySem.Spec
open PyProof.Rows hiding St
section
variable {nm : Nm} {X : Cx} {W : XW}
end
end Lr
namespace Lr
open PySem L2 PySem.Spec
open PyProof.Rows hiding St
section
variable {nm : Nm} {X : Cx} {W : XW} {a tg : Expr} {ma : M}
end
end Lr
namespace Lr
open PySem L2 PySem.Spec
open PyProof.Rows hiding St
mutual
noncomputable def nkH (H : Hp) : PySem.NestedKey → V → Prop
  | .none, v => v = .non
  | .num i, v => v = .int i
  | .text x, v => v = .str x
  | .tup ks, v => ∃ a vs, v = .ref a ∧ H a = some (.tup vs) ∧ nkHs H ks vs
noncomputable def nkHs (H : Hp) : List PySem.NestedKey → List V → Prop
  | [], vs => vs = []
  | k :: ks, vs => ∃ v r, vs = v :: r ∧ nkH H k v ∧ nkHs H ks r
end
mutual
theorem nk_rep {t : Ct} {G H : Hp} {ρ : List Addr} (hs : Same G H) : ∀ (d : D) (k : PySem.NestedKey) (v : V), nkOf d = some k → rep t G ρ d v → nkH H k v
  | .int i, k, v, e, r => by simp only [nkOf, Option.some.injEq] at e; subst e; exact r
  | .str x, k, v, e, r => by simp only [nkOf, Option.some.injEq] at e; subst e; exact r.1
  | .non, k, v, e, r => by simp only [nkOf, Option.some.injEq] at e; subst e; exact r
  | .tup ds, k, v, e, ⟨a, vs, e1, q, rs⟩ => by
    simp only [nkOf, Option.map_eq_some_iff] at e
    obtain ⟨ks, e, rfl⟩ := e
    exact ⟨a, vs, e1, hs _ _ q, nk_reps hs ds ks vs e rs⟩
  | .bl _, _, _, e, _ => by simp [nkOf] at e
  | .lst _, _, _, e, _ => by simp [nkOf] at e
  | .scr _, _, _, e, _ => by simp [nkOf] at e
  | .dic _, _, _, e, _ => by simp [nkOf] at e
  | .dit _, _, _, e, _ => by simp [nkOf] at e
  | .obj _ _, _, _, e, _ => by simp [nkOf] at e
  | .ref _, _, _, e, _ => by simp [nkOf] at e
  | .tpz _, _, _, e, _ => by simp [nkOf] at e
  | .exc _ _, _, _, e, _ => by simp [nkOf] at e
  | .din _, _, _, e, _ => by simp [nkOf] at e
theorem nk_reps {t : Ct} {G H : Hp} {ρ : List Addr} (hs : Same G H) : ∀ (ds : List D) (ks : List PySem.NestedKey) (vs : List V), nksOf ds = some ks → reps t G ρ ds vs → nkHs H ks vs
  | [], ks, vs, e, r => by simp only [nksOf, Option.some.injEq] at e; subst e; exact r
  | d :: ds, ks, _, e, ⟨v, r, e1, h1, h2⟩ => by
    unfold nksOf at e
    split at e
    · rename_i k ks' q1 q2
      cases e
      exact ⟨v, r, e1, nk_rep hs d k v q1 h1, nk_reps hs ds ks' r q2 h2⟩
    · cases e
end
mutual
theorem nk_is {P : Program} {w : World} {H : Hp} {h : Heap} (ok : HOk P w H h) : ∀ (k : PySem.NestedKey) (v : V) (u : Value), nkH H k v → RelV v u → NestedIs h k u
  | .none, v, u, e, r => by subst e; cases r; exact .none
  | .num i, v, u, e, r => by subst e; obtain ⟨t, rfl⟩ := r; exact .int i t
  | .text x, v, u, e, r => by subst e; obtain ⟨t, rfl⟩ := r; exact .text x t
  | .tup ks, v, u, ⟨a, vs, e, q, hk⟩, r => by
    subst e
    cases r
    obtain ⟨_, its, rv, o, h1, h2, n, h3⟩ := (show ObjOk P w H h a (.tup vs) from ok a _ q)
    exact .tup h1 h2 h3 (by simpa using nks_is ok ks vs its hk rv)
theorem nks_is {P : Program} {w : World} {H : Hp} {h : Heap} (ok : HOk P w H h) : ∀ (ks : List PySem.NestedKey) (vs : List V) (us : List Value), nkHs H ks vs → Vals vs us → NestedAll h ks us
  | [], vs, us, e, r => by cases e; cases r; exact .nil
  | k :: ks, _, us, ⟨v, r, e, h1, h2⟩, rv => by
    subst e
    cases rv with
    | cons r1 r2 => exact .cons (nk_is ok k v _ h1 r1) (nks_is ok ks r _ h2 r2)
end
structure DnK (w : World) (H : Hp) (a : Addr) (xs : List NE) : Prop where
  at_ : H a = some (DnO w a xs)
  nd : (xs.map (·.1)).Nodup
  ks : ∀ e ∈ xs, nkH H e.1 (.ref e.2.1) ∧ e.1.depth ≤ 8
section
variable {X : Cx} {pins : List (Addr × Obj)} {σ : St} {H : Hp} {s : Shared} {a : Addr} {xs : List NE} {A : Around} {E : Value → Shared → Prop}
end
noncomputable def nkOk (d : D) : Bool := match d with
  | .tup ds => match nkOf (.tup ds) with
    | some k => decide (k.depth ≤ 8)
    | none => false
  | _ => false
section
variable {t : Ct} {G H : Hp} {ρ : List Addr}
end
section
variable {nm : Nm} {X : Cx} {W : XW} {a b c e o i tg it : Expr} {es : List Expr} {pos p apos pos' : Pos} {ms : MA} {ma mo mi mb : M}
section
variable {env : Ev} {μ : Mu} {σ : St} {H G : Hp} {ρ : List Addr}
end
end
end Lr
namespace Lr
open PySem L2
section
variable {α β : Type} {k : α → D} {l : β → D} {x : Bool} {n n2 n3 : Dt}
class Nk {α : Type} (k : α → D) (n : outParam Dt) : Prop where
  some : ∀ a, ∃ z, nkOf (k a) = some z ∧ z.depth ≤ n.n
  inj : ∀ a b, nkOf (k a) = nkOf (k b) → a = b
noncomputable instance : Nk D.int .o := ⟨fun a => ⟨_, rfl, Nat.zero_le _⟩, fun a b h => by simp only [nkOf, Option.some.injEq, PySem.NestedKey.num.injEq] at h; exact h⟩
noncomputable instance : Nk D.str .o := ⟨fun a => ⟨_, rfl, Nat.zero_le _⟩, fun a b h => by
  simp only [nkOf, Option.some.injEq, PySem.NestedKey.text.injEq] at h
  exact S_inj h⟩
theorem nks_map [Nk k n] : ∀ xs : List α, ∃ z, nksOf (xs.map k) = some z ∧ PySem.NestedKey.depthAll z ≤ n.n
  | [] => ⟨[], rfl, Nat.zero_le _⟩
  | a :: r => by
    obtain ⟨z, e, h⟩ := Nk.some (k := k) a
    obtain ⟨zs, es, hs⟩ := nks_map r
    refine ⟨z :: zs, ?_, ?_⟩
    · rw [List.map_cons]; unfold nksOf; rw [e, es]
    · show max _ _ ≤ _
      omega
theorem nks_inj [Nk k n] : ∀ xs ys : List α, nksOf (xs.map k) = nksOf (ys.map k) → xs = ys
  | [], [], _ => rfl
  | [], b :: r, h => by
    obtain ⟨z, e, _⟩ := Nk.some (k := k) b
    obtain ⟨zs, es, _⟩ := nks_map (k := k) r
    rw [List.map_cons] at h
    unfold nksOf at h
    rw [e, es] at h
    cases h
  | b :: r, [], h => by
    obtain ⟨z, e, _⟩ := Nk.some (k := k) b
    obtain ⟨zs, es, _⟩ := nks_map (k := k) r
    rw [List.map_cons] at h
    unfold nksOf at h
    rw [e, es] at h
    cases h
  | a :: r, b :: q, h => by
    obtain ⟨z, e, _⟩ := Nk.some (k := k) a
    obtain ⟨zs, es, _⟩ := nks_map (k := k) r
    obtain ⟨z', e', _⟩ := Nk.some (k := k) b
    obtain ⟨zs', es', _⟩ := nks_map (k := k) q
    rw [List.map_cons, List.map_cons] at h
    unfold nksOf at h
    rw [e, es, e', es'] at h
    simp only [Option.some.injEq, List.cons.injEq] at h
    rw [Nk.inj (k := k) a b (by rw [e, e', h.1]), nks_inj r q (by rw [es, es', h.2])]
noncomputable instance [Nk k n] : Nk (kTp k) (.s n) := ⟨fun a => by
  obtain ⟨z, e, h⟩ := nks_map (k := k) a
  refine ⟨.tup z, ?_, ?_⟩
  · show (nksOf (a.map k)).map _ = _; rw [e]; rfl
  · show _ + 1 ≤ n.n + 1; omega, fun a b h => by
  obtain ⟨z, e, _⟩ := nks_map (k := k) a
  obtain ⟨z', e', _⟩ := nks_map (k := k) b
  have h : (nksOf (a.map k)).map PySem.NestedKey.tup = (nksOf (b.map k)).map PySem.NestedKey.tup := h
  rw [e, e'] at h
  refine nks_inj (k := k) a b ?_
  rw [e, e']
  simpa using h⟩
noncomputable instance {k2 : β → D} [Nk k n] [Nk k2 n2] : Nk (kT2 k k2) (.s (.m n n2)) := ⟨fun a => by
  obtain ⟨z, e, h⟩ := Nk.some (k := k) a.1
  obtain ⟨z2, e2, h2⟩ := Nk.some (k := k2) a.2
  refine ⟨.tup [z, z2], ?_, ?_⟩
  · show (nksOf [k a.1, k2 a.2]).map _ = _
    simp only [nksOf, e, e2]; rfl
  · show max _ (max _ 0) + 1 ≤ max n.n n2.n + 1
    omega, fun a b h => by
  obtain ⟨z, e, _⟩ := Nk.some (k := k) a.1
  obtain ⟨z2, e2, _⟩ := Nk.some (k := k2) a.2
  obtain ⟨y, f, _⟩ := Nk.some (k := k) b.1
  obtain ⟨y2, f2, _⟩ := Nk.some (k := k2) b.2
  have h : (nksOf [k a.1, k2 a.2]).map PySem.NestedKey.tup = (nksOf [k b.1, k2 b.2]).map PySem.NestedKey.tup := h
  simp only [nksOf, e, e2, f, f2, Option.map_some, Option.some.injEq, PySem.NestedKey.tup.injEq, List.cons.injEq, and_true] at h
  exact Prod.ext (Nk.inj (k := k) _ _ (by rw [e, f, h.1])) (Nk.inj (k := k2) _ _ (by rw [e2, f2, h.2]))⟩
noncomputable instance {γ : Type} {k2 : β → D} {k3 : γ → D} [Nk k n] [Nk k2 n2] [Nk k3 n3] : Nk (kT3 k k2 k3) (.s (.m n (.m n2 n3))) := ⟨fun a => by
  obtain ⟨z, e, h⟩ := Nk.some (k := k) a.1
  obtain ⟨z2, e2, h2⟩ := Nk.some (k := k2) a.2.1
  obtain ⟨z3, e3, h3⟩ := Nk.some (k := k3) a.2.2
  refine ⟨.tup [z, z2, z3], ?_, ?_⟩
  · show (nksOf [k a.1, k2 a.2.1, k3 a.2.2]).map _ = _
    simp only [nksOf, e, e2, e3]; rfl
  · show max _ (max _ (max _ 0)) + 1 ≤ max n.n (max n2.n n3.n) + 1
    omega, fun a b h => by
  obtain ⟨z, e, _⟩ := Nk.some (k := k) a.1
  obtain ⟨z2, e2, _⟩ := Nk.some (k := k2) a.2.1
  obtain ⟨z3, e3, _⟩ := Nk.some (k := k3) a.2.2
  obtain ⟨y, f, _⟩ := Nk.some (k := k) b.1
  obtain ⟨y2, f2, _⟩ := Nk.some (k := k2) b.2.1
  obtain ⟨y3, f3, _⟩ := Nk.some (k := k3) b.2.2
  have h : (nksOf [k a.1, k2 a.2.1, k3 a.2.2]).map PySem.NestedKey.tup = (nksOf [k b.1, k2 b.2.1, k3 b.2.2]).map PySem.NestedKey.tup := h
  simp only [nksOf, e, e2, e3, f, f2, f3, Option.map_some, Option.some.injEq, PySem.NestedKey.tup.injEq, List.cons.injEq, and_true] at h
  exact Prod.ext (Nk.inj (k := k) _ _ (by rw [e, f, h.1])) (Prod.ext (Nk.inj (k := k2) _ _ (by rw [e2, f2, h.2.1])) (Nk.inj (k := k3) _ _ (by rw [e3, f3, h.2.2])))⟩
class Nkk {α : Type} (k : α → D) : Prop where
  ok : ∀ a, nkOk (k a) = true
  inj : ∀ a b, nkOf (k a) = nkOf (k b) → a = b
  cl : ∀ a, isCl (k a) = false
class Le8 (n : Dt) : Prop where
  le : n.n ≤ 8
noncomputable instance le8a : Le8 (.s (.s (.m .o (.m .o .o)))) := ⟨by decide⟩
noncomputable instance le8b : Le8 (.s (.m .o (.s (.s (.m .o .o))))) := ⟨by decide⟩
noncomputable instance le8c : Le8 (.s .o) := ⟨by decide⟩
noncomputable instance le8d : Le8 (.s (.m .o (.m .o .o))) := ⟨by decide⟩
noncomputable instance le8e : Le8 (.s (.m .o .o)) := ⟨by decide⟩
theorem nkok_of {d : D} {ds : List D} {z : PySem.NestedKey} (e : d = .tup ds) (h : nkOf d = some z) (l : z.depth ≤ 8) : nkOk d = true := by
  subst e
  unfold nkOk
  dsimp only
  rw [h]
  exact decide_eq_true l
noncomputable instance [Nk (kTp k) n] [Le8 n] : Nkk (kTp k) := ⟨fun a => by
  obtain ⟨z, e, h⟩ := Nk.some (k := kTp k) a
  exact nkok_of rfl e (Nat.le_trans h Le8.le), Nk.inj, fun _ => rfl⟩
noncomputable instance {k2 : β → D} [Nk (kT2 k k2) n] [Le8 n] : Nkk (kT2 k k2) := ⟨fun a => by
  obtain ⟨z, e, h⟩ := Nk.some (k := kT2 k k2) a
  exact nkok_of rfl e (Nat.le_trans h Le8.le), Nk.inj, fun _ => rfl⟩
noncomputable instance {γ : Type} {k2 : β → D} {k3 : γ → D} [Nk (kT3 k k2 k3) n] [Le8 n] : Nkk (kT3 k k2 k3) := ⟨fun a => by
  obtain ⟨z, e, h⟩ := Nk.some (k := kT3 k k2 k3) a
  exact nkok_of rfl e (Nat.le_trans h Le8.le), Nk.inj, fun _ => rfl⟩
section
variable {S C A J V N L ρ : Type} {γ : Sls S} {Qn : S → N → Ev → Mu → Prop} {Ql : S → L → Ev → Mu → Prop} {Qr : ρ → D → Mu → Prop} {Qx : S → Ev → Mu → Prop} {r : SM} {ms : MA} {kas : A → List D} {ma mi mb : M}
end
end
end Lr
namespace Lr
open PySem L2 PySem.Spec
open PyProof.Rows hiding St
section
variable {P : Program} {w : World} {A : Around} {h0 : Heap} {S I : Addr} {n u : Nat} {Pv : Nat → Value → Prop} {J : Nat → Obj → Prop}
noncomputable def setO0 (w : World) : Obj := { cls := .type "set", dict := none, data := .set #[] 0 (.fresh 0 0 (!w.params.followText "set-order")) }
structure Grow (P : Program) (w : World) (h0 : Heap) (u n : Nat) (Pv : Nat → Value → Prop) (J : Nat → Obj → Prop) : Prop where
  start : J 0 (setO0 w)
  step : ∀ (A : Around) (E : Value → Shared → Prop) (s : Shared) (S : Addr) (i : Nat) (v : Value) (o : Obj) (Q : Bool → Shared → Prop), A.units ≤ u → i < n → Pv i v → (∀ b ob, h0.get? b = some ob → s.heap.get? b = some ob) → h0.get? S = none → s.heap.get? S = some o → J i o →
    (∀ b h' o' tk, Heap.SameBut S s.heap h' → h'.get? S = some o' → J (i + 1) o' → s.toks ≤ tk → Q b { s with heap := h', toks := tk }) → wpAny (model P w) A (setAdd S v) Q E s
end
section
variable {P : Program} {w : World} {A : Around} {E : Value → Shared → Prop} {s : Shared} {n : Nat} {Pv : Nat → Value → Prop} {J : Nat → Obj → Prop}
end
end Lr
namespace Lr
open PySem L2 PySem.Spec PySem.Froz
open PyProof.Rows hiding St
section
variable {P : Program} {w : World} {A : Around} {E : Value → Shared → Prop} {s : Shared}
end
end Lr
namespace Lr
open PySem L2 PySem.Spec
open PyProof.Rows hiding St
section
variable {P : Program} {w : World} {A : Around} {E : Value → Shared → Prop} {s : Shared} {a : Addr} {es : Array (Int × Value)} {ep : Nat} {t : SetTable}
end
end Lr
namespace Lr
open PySem L2 PySem.Spec
open PyProof.Rows hiding St
section
variable {P : Program} {w : World} {A : Around} {E : Value → Shared → Prop} {s : Shared} {a : Addr} {es : Array (Int × Value)} {ep : Nat} {t : SetTable}
end
end Lr
namespace PySem.W
open PySem PySem.Calls PyProof.Rows L2
section
variable {prog : Program} {w : World} {A : Around} {E : Value → Shared → Prop} {s : Shared} {β : Type} {enc : β → PyData} {R : Value → β → Prop}
end
end PySem.W
namespace Lr
open PySem L2 PySem.Spec PySem.Froz
open PyProof.Rows hiding St
section
variable {nm : Nm} {X : Cx} {W : XW}
end
end Lr
namespace Lr
open PySem L2 PySem.Spec
open PyProof.Rows hiding St
section
variable {nm : Nm} {X : Cx} {W : XW} {a : Expr} {ma : M} {p p2 q pos : Pos}
end
end Lr
namespace Lr
open PySem L2
section
variable {S' : Type} {x : Bool} {γ : Sls S'} {ma : M}
end
end Lr
namespace Lr
open PySem L2 PySem.Spec
open PyProof.Rows hiding St
section
variable {nm : Nm} {X : Cx} {W : XW}
end
section
variable {S N L ρ : Type} {γ : Sls S} {x : Bool} {α β : Type} {k : α → D} {l : β → D}
end
end Lr
namespace Lr
open PySem L2 PySem.Spec
noncomputable def gs : Nat → Nat
  | 0 => 0
  | k + 1 => 5 * gs k + 1
theorem gs_pow : ∀ k, 5 ^ k = 4 * gs k + 1
  | 0 => rfl
  | k + 1 => by
    have := gs_pow k
    rw [Nat.pow_succ, this]
    show _ = 4 * (5 * gs k + 1) + 1
    omega
theorem gs_add (a : Nat) : ∀ b, gs (a + b) = 5 ^ b * gs a + gs b
  | 0 => by simp [gs]
  | b + 1 => by
    show 5 * gs (a + b) + 1 = _
    rw [gs_add a b, Nat.pow_succ]
    show _ = _ + (5 * gs b + 1)
    have e : 5 ^ b * 5 * gs a = 5 * (5 ^ b * gs a) := by rw [Nat.mul_comm (5 ^ b) 5, Nat.mul_assoc]
    omega
theorem gs_odd : ∀ d, gs d % 2 = d % 2
  | 0 => rfl
  | d + 1 => by
    have := gs_odd d
    show (5 * gs d + 1) % 2 = _
    omega
theorem two_cop {q : Nat} (p : Nat) (h : q % 2 = 1) : Nat.Coprime (2 ^ p) q := by
  refine Nat.Coprime.pow_left p ?_
  show Nat.gcd 2 q = 1
  rw [Nat.gcd_rec, h]
  rfl
theorem gs_dvd : ∀ p d, 2 ^ p ∣ gs d → 2 ^ p ∣ d
  | 0, d, _ => by rw [Nat.pow_zero]; exact Nat.one_dvd d
  | p + 1, d, h => by
    have h2 : 2 ∣ gs d := Nat.dvd_trans ⟨2 ^ p, by rw [Nat.pow_succ, Nat.mul_comm]⟩ h
    have ev : d % 2 = 0 := by rw [← gs_odd]; exact Nat.mod_eq_zero_of_dvd h2
    obtain ⟨e, rfl⟩ : ∃ e, d = e + e := ⟨d / 2, by omega⟩
    have q5 := gs_pow e
    rw [gs_add] at h
    have e1 : 5 ^ e * gs e + gs e = 2 * ((2 * gs e + 1) * gs e) := by
      rw [q5, ← Nat.mul_assoc]
      have : 2 * (2 * gs e + 1) = (4 * gs e + 1) + 1 := by omega
      rw [this]
      generalize 4 * gs e + 1 = z
      rw [Nat.succ_mul]
    rw [e1, Nat.pow_succ, Nat.mul_comm (2 ^ p) 2] at h
    have h3 : 2 ^ p ∣ (2 * gs e + 1) * gs e := Nat.dvd_of_mul_dvd_mul_left (by decide) h
    have h4 : 2 ^ p ∣ gs e := Nat.Coprime.dvd_of_dvd_mul_left (two_cop p (by omega)) h3
    obtain ⟨c, hc⟩ := gs_dvd p e h4
    exact ⟨c, by rw [Nat.pow_succ, Nat.mul_right_comm, ← hc]; omega⟩
theorem lcg_closed (m i : Nat) (hi : i ≤ m) : ∀ k, lcgI m i k = (5 ^ k * i + gs k) % (m + 1)
  | 0 => by
    show i = (5 ^ 0 * i + gs 0) % (m + 1)
    rw [Nat.pow_zero, Nat.one_mul]
    exact (Nat.mod_eq_of_lt (by show i + 0 < m + 1; omega)).symm
  | k + 1 => by
    show (lcgI m i k * 5 + 1) % (m + 1) = _
    rw [lcg_closed m i hi k, Nat.pow_succ]
    show _ = (5 ^ k * 5 * i + (5 * gs k + 1)) % (m + 1)
    have e : 5 ^ k * 5 * i + (5 * gs k + 1) = (5 ^ k * i + gs k) * 5 + 1 := by
      rw [Nat.add_mul, Nat.mul_right_comm]; omega
    rw [e]
    generalize 5 ^ k * i + gs k = x
    rw [Nat.add_mod (x % (m + 1) * 5), Nat.add_mod (x * 5), Nat.mul_mod (x % (m + 1)), Nat.mod_mod, ← Nat.mul_mod]
theorem lcg_le (m i : Nat) (hi : i ≤ m) (k : Nat) : lcgI m i k ≤ m := by
  rw [lcg_closed m i hi]; exact Nat.le_of_lt_succ (Nat.mod_lt _ (Nat.succ_pos _))
theorem lcg_more (m i a : Nat) : ∀ d, lcgI m (lcgI m i a) d = lcgI m i (a + d)
  | 0 => rfl
  | d + 1 => by
    show (lcgI m (lcgI m i a) d * 5 + 1) % (m + 1) = (lcgI m i (a + d) * 5 + 1) % (m + 1)
    rw [lcg_more]
theorem lcg_apart {m p : Nat} (hp : m + 1 = 2 ^ p) {i : Nat} (hi : i ≤ m) {a b : Nat} (hab : a < b) (hb : b < a + (m + 1)) : lcgI m i a ≠ lcgI m i b := by
  intro e
  obtain ⟨d, rfl⟩ : ∃ d, b = a + d := ⟨b - a, by omega⟩
  rw [← lcg_more] at e
  generalize hy : lcgI m i a = y at e
  have ly : y ≤ m := by rw [← hy]; exact lcg_le m i hi a
  rw [lcg_closed m y ly] at e
  have e2 : (5 ^ d * y + gs d) % (m + 1) = y % (m + 1) := by rw [← e]; exact (Nat.mod_eq_of_lt (by omega)).symm
  have e3 : 5 ^ d * y + gs d = gs d * (4 * y + 1) + y := by
    rw [gs_pow]
    rw [Nat.add_mul, Nat.one_mul, Nat.mul_add, Nat.mul_one, Nat.mul_left_comm, Nat.mul_assoc]
    omega
  rw [e3] at e2
  have h1 : (m + 1) ∣ gs d * (4 * y + 1) := by
    have := Nat.sub_mod_eq_zero_of_mod_eq e2
    rw [Nat.add_sub_cancel] at this
    exact Nat.dvd_of_mod_eq_zero this
  rw [hp] at h1
  have h2 : 2 ^ p ∣ gs d := Nat.Coprime.dvd_of_dvd_mul_right (two_cop p (by omega)) h1
  have h3 := Nat.le_of_dvd (by omega) (gs_dvd p d h2)
  omega
theorem lcg_nd {m p : Nat} (hp : m + 1 = 2 ^ p) {i : Nat} (hi : i ≤ m) {n : Nat} (hn : n ≤ m + 1) : ((List.range n).map (lcgI m i)).Nodup := by
  unfold List.Nodup
  rw [List.pairwise_map]
  exact List.pairwise_lt_range.imp_of_mem fun {a b} ha hb h => lcg_apart hp hi h (by have := List.mem_range.mp hb; omega)
theorem start_free {m p : Nat} (hp : m + 1 = 2 ^ p) (h : Int) (occ : List Nat) (hl : occ.length ≤ m) : ∃ n, n ≤ occ.length + 12 ∧ runI m (SetTable.bits h) n ∉ occ := by
  refine Classical.byContradiction fun no => ?_
  have all : ∀ n, n ≤ occ.length + 12 → runI m (SetTable.bits h) n ∈ occ := fun n hn => Classical.byContradiction fun z => no ⟨n, hn, z⟩
  have nd := lcg_nd hp (runI_le m (SetTable.bits h) 12) (n := occ.length + 1) (by omega)
  have := nat_nodup_len _ occ nd fun x hx => by
    obtain ⟨k, hk, rfl⟩ := List.mem_map.mp hx
    rw [← runI_tail (bits_lt h)]
    exact all _ (by have := List.mem_range.mp hk; omega)
  rw [List.length_map, List.length_range] at this
  omega
end Lr
namespace Lr
open PySem L2 PySem.Spec
structure Tw (t : SetTable) (hs : List Int) : Prop where
  ris : Ris t.place.toList
  nod : t.dummies = #[]
  siz : t.place.size = hs.length
  pw : ∃ p, 3 ≤ p ∧ t.mask + 1 = 2 ^ p
  low : ∀ x ∈ t.place.toList, x ≤ t.mask
  path : ∀ q ∈ hs.zip t.place.toList, ∃ k, way t.mask q.1 k = q.2 ∧ ∀ i, i < k → way t.mask q.1 i ∈ t.place.toList
theorem way_low (m : Nat) (h : Int) (k : Nat) : way m h k ≤ m := by
  have r := runEnd_bd (m := m) (i := SetTable.bits h % (m + 1)) (Nat.le_of_lt_succ (Nat.mod_lt _ (Nat.succ_pos m)))
  have z : (runAt m (SetTable.bits h % (m + 1)) (SetTable.bits h)).j + (runAt m (SetTable.bits h % (m + 1)) (SetTable.bits h)).more ≤ m := by
    show SetTable.bits h % (m + 1) + (SetTable.runEnd m _ - SetTable.bits h % (m + 1)) ≤ m
    omega
  exact Nat.le_trans (Nat.le_add_right _ _) (nth_in k _ z)
section
variable {t : SetTable} {hs : List Int}
theorem Tw.len (T : Tw t hs) : t.place.toList.length = hs.length := by rw [Array.length_toList, T.siz]
theorem Tw.free (T : Tw t hs) (hl : hs.length ≤ t.mask) (h : Int) : ∃ K, K ≤ 10 * (hs.length + 12) ∧ way t.mask h K ∉ t.place.toList ∧ ∀ k, k < K → way t.mask h k ∈ t.place.toList := by
  obtain ⟨p, _, e⟩ := T.pw
  obtain ⟨n, hn, hf⟩ := start_free e h t.place.toList (by rw [T.len]; exact hl)
  rw [T.len] at hn
  obtain ⟨k, hk, ek⟩ := run_nth t.mask (SetTable.bits h) n
  have hw : way t.mask h k = runI t.mask (SetTable.bits h) n := congrArg SetTable.Probe.j ek
  obtain ⟨K, a, b, c⟩ := st_least (p := fun k => way t.mask h k ∉ t.place.toList) k (by show way t.mask h k ∉ _; rw [hw]; exact hf)
  exact ⟨K, Nat.le_trans a (by omega), b, fun i hi => Classical.byContradiction (c i hi)⟩
theorem zip_in {a b : List Int} {c d : List Nat} {h : Int} {j : Nat} {q : Int × Nat} (e : a.length = c.length) (hq : q ∈ (a ++ h :: b).zip (c ++ j :: d)) : q = (h, j) ∨ q ∈ (a ++ b).zip (c ++ d) := by
  rw [List.zip_append e, List.mem_append, List.zip_cons_cons, List.mem_cons] at hq
  rw [List.zip_append e, List.mem_append]
  rcases hq with z | z | z
  · exact .inr (.inl z)
  · exact .inl z
  · exact .inr (.inr z)
theorem Tw.put (T : Tw t hs) {h : Int} {K : Nat} (hK : way t.mask h K ∉ t.place.toList) (hb : ∀ k, k < K → way t.mask h k ∈ t.place.toList) : ∃ (p : Nat) (t1 : SetTable), t.put (way t.mask h K) = (t1, p) ∧ p = SetTable.below t.place (way t.mask h K) ∧ p ≤ hs.length ∧
    Tw t1 (hs.take p ++ h :: hs.drop p) ∧ t1.mask = t.mask ∧ t1.led = t.led ∧ t1.fill = hs.length + 1 := by
  generalize hj : way t.mask h K = j at hK
  have pc := (below_cut T.ris j).1
  have pl := put_place t j
  have pd := put_dm T.nod j
  have no : t.place[SetTable.below t.place j]? ≠ some j := fun e => hK (List.mem_of_getElem? (by rw [Array.getElem?_toList]; exact e))
  have ri := ris_insert T.ris no
  have z1 : SetTable.below t.place j ≤ t.place.toList.length := pc
  have more : ∀ {x : Nat}, x ∈ (t.put j).1.place.toList ↔ x = j ∨ x ∈ t.place.toList := fun {x} => by rw [pl]; exact mem_ins
  have sz : (t.put j).1.place.size = hs.length + 1 := by rw [← Array.length_toList, pl, len_ins _ z1, T.len]
  have le : SetTable.below t.place j ≤ hs.length := by rw [← T.siz]; exact pc
  refine ⟨SetTable.below t.place j, (t.put j).1, rfl, rfl, le, ⟨ri, pd, by rw [sz, len_ins _ le], T.pw, fun x hx => ?_, fun q hq => ?_⟩, rfl, rfl, ?_⟩
  · rcases more.mp hx with rfl | z
    · rw [← hj]; exact way_low _ _ _
    · exact T.low x z
  · rw [pl] at hq
    rcases zip_in (by rw [List.length_take, List.length_take, T.len]) hq with rfl | z
    · exact ⟨K, hj, fun i hi => more.mpr (.inr (hb i hi))⟩
    · rw [List.take_append_drop, List.take_append_drop] at z
      obtain ⟨k, e, r⟩ := T.path q z
      exact ⟨k, e, fun i hi => more.mpr (.inr (r i hi))⟩
  · show (t.put j).1.place.size + (t.put j).1.dummies.size = _
    rw [sz, pd]; rfl
end
end Lr
namespace Lr
open PySem L2 PySem.Spec PySem.Froz
open PyProof.Rows hiding St
section
variable {P : Program} {w : World}
noncomputable def NoCls (P : Program) (w : World) (n : Nat) (s : Shared) (v : Value) : Prop := ∀ (A : Around) (E : Value → Shared → Prop) (Q : Bool → Shared → Prop), Q false s → wpAny (model P w) A (ofAClassStatement n v) Q E s
noncomputable def ByVal (P : Program) (w : World) (n : Nat) (s : Shared) (v : Value) : Prop := ∀ (A : Around) (E : Value → Shared → Prop) (Q : Bool → Shared → Prop), (∀ b, Q b s) → wpAny (model P w) A (hashByValue n v) Q E s
theorem noCls_tup {n : Nat} {s : Shared} {a : Addr} {o : Obj} {vs : Array Value} {m : Nat} (ho : s.heap.get? a = some o) (hc : o.cls = .type "tuple") (hd : o.data = .seq vs m) (hq : ∀ v ∈ vs.toList, NoCls P w n s v) : NoCls P w (n + 1) s (.ref a) := fun A E Q h => by
  unfold ofAClassStatement
  refine wpAny_bind (wpAny_typeOf (T := "tuple") ⟨o, ho, hc⟩ ?_)
  dsimp only
  rw [show ((("tuple" : String) == "tuple") = true) from by decide]
  simp only [if_true]
  refine wpAny_bind (wpAny_pure ?_)
  simp only [Bool.not_true, Bool.false_eq_true, if_false]
  refine wpAny_bind (wpAny_seqItems ho hd ?_)
  dsimp only
  refine wpAny_bind ?_
  rw [← Array.forIn_toList]
  refine wpAny_forIn_list _ (fun l r s1 => r.1 = none ∧ s1 = s ∧ ∀ v ∈ l, NoCls P w n s v) _ ?_ ?_ _ _ ⟨rfl, rfl, hq⟩
  · rintro v l r s1 ⟨_, rfl, al⟩
    refine wpAny_bind (al v List.mem_cons_self _ _ _ ?_)
    simp only [Bool.false_eq_true, if_false]
    exact wpAny_pure ⟨rfl, rfl, fun u hu => al u (List.mem_cons_of_mem _ hu)⟩
  · rintro ⟨r1, r2⟩ s1 ⟨z, rfl, _⟩
    cases (show r1 = none from z)
    exact wpAny_pure h
theorem byVal_tup {n : Nat} {s : Shared} {a : Addr} {o : Obj} {vs : Array Value} {m : Nat} (ho : s.heap.get? a = some o) (hc : o.cls = .type "tuple") (hd : o.data = .seq vs m) (hq : ∀ v ∈ vs.toList, ByVal P w n s v) : ByVal P w (n + 1) s (.ref a) := fun A E Q h => by
  unfold hashByValue
  refine wpAny_bind (wpAny_specialOf (T := "tuple") ⟨o, ho, hc⟩ F.slot_tuple_hash.lookup ?_)
  refine wpAny_bind (wpAny_seqItems ho hd ?_)
  refine wpAny_bind ?_
  show wpAny _ _ (forIn vs _ _) _ _ s
  rw [← Array.forIn_toList]
  refine wpAny_forIn_list _ (fun l r s1 => r.1 = none ∧ s1 = s ∧ ∀ v ∈ l, ByVal P w n s v) _ ?_ ?_ _ _ ⟨rfl, rfl, hq⟩
  · rintro v l r s1 ⟨_, rfl, al⟩
    refine wpAny_bind (al v List.mem_cons_self _ _ _ fun b => ?_)
    cases b with
    | false =>
      simp only [Bool.not_false, if_true]
      exact wpAny_pure (wpAny_pure (h false))
    | true =>
      simp only [Bool.not_true, Bool.false_eq_true, if_false]
      exact wpAny_pure ⟨rfl, rfl, fun u hu => al u (List.mem_cons_of_mem _ hu)⟩
  · rintro ⟨r1, r2⟩ s1 ⟨z, rfl, _⟩
    cases (show r1 = none from z)
    exact wpAny_pure (h true)
mutual
theorem noCls_key : ∀ (k : NestedKey) (v : Value) (n : Nat) (s : Shared), NestedIs s.heap k v → k.depth ≤ n → NoCls P w n s v
  | .none, _, n, s, x, _ => by cases x; intro A E Q h; cases n <;> exact wpAny_pure h
  | .num i, _, n, s, x, _ => by cases x <;> (intro A E Q h; cases n <;> exact wpAny_pure h)
  | .text y, _, n, s, x, _ => by cases x; intro A E Q h; cases n <;> exact wpAny_pure h
  | .tup ks, _, n, s, x, hn => by
    cases x with
    | tup hg hc hd hk =>
      have hn : NestedKey.depthAll ks + 1 ≤ n := hn
      obtain ⟨m, rfl⟩ : ∃ m, n = m + 1 := ⟨n - 1, by omega⟩
      exact noCls_tup hg hc hd (noCls_keys ks _ m s hk (by omega))
theorem noCls_keys : ∀ (ks : List NestedKey) (vs : List Value) (n : Nat) (s : Shared), NestedAll s.heap ks vs → NestedKey.depthAll ks ≤ n → ∀ v ∈ vs, NoCls P w n s v
  | [], _, n, s, x, _, v, hv => by cases x; cases hv
  | k :: ks, _, n, s, x, hn, v, hv => by
    cases x with
    | cons x1 x2 =>
      have hn : max k.depth (NestedKey.depthAll ks) ≤ n := hn
      rcases List.mem_cons.mp hv with rfl | hv
      · exact noCls_key k _ n s x1 (by omega)
      · exact noCls_keys ks _ n s x2 (by omega) v hv
end
mutual
theorem byVal_key : ∀ (k : NestedKey) (v : Value) (n : Nat) (s : Shared), NestedIs s.heap k v → k.depth ≤ n → ByVal P w n s v
  | .none, _, n, s, x, _ => by cases x; intro A E Q h; cases n <;> exact wpAny_pure (h _)
  | .num i, _, n, s, x, _ => by cases x <;> (intro A E Q h; cases n <;> exact wpAny_pure (h _))
  | .text y, _, n, s, x, _ => by cases x; intro A E Q h; cases n <;> exact wpAny_pure (h _)
  | .tup ks, _, n, s, x, hn => by
    cases x with
    | tup hg hc hd hk =>
      have hn : NestedKey.depthAll ks + 1 ≤ n := hn
      obtain ⟨m, rfl⟩ : ∃ m, n = m + 1 := ⟨n - 1, by omega⟩
      exact byVal_tup hg hc hd (byVal_keys ks _ m s hk (by omega))
theorem byVal_keys : ∀ (ks : List NestedKey) (vs : List Value) (n : Nat) (s : Shared), NestedAll s.heap ks vs → NestedKey.depthAll ks ≤ n → ∀ v ∈ vs, ByVal P w n s v
  | [], _, n, s, x, _, v, hv => by cases x; cases hv
  | k :: ks, _, n, s, x, hn, v, hv => by
    cases x with
    | cons x1 x2 =>
      have hn : max k.depth (NestedKey.depthAll ks) ≤ n := hn
      rcases List.mem_cons.mp hv with rfl | hv
      · exact byVal_key k _ n s x1 (by omega)
      · exact byVal_keys ks _ n s x2 (by omega) v hv
end
end
end Lr
namespace Lr
open PySem L2 PySem.Spec PySem.Froz
open PyProof.Rows hiding St
noncomputable def ent (w : World) (p : NestedKey × Addr) : Int × Value := (p.1.hash w, .ref p.2)
structure Ns (w : World) (L : List (NestedKey × Addr)) (es : Array (Int × Value)) (t : SetTable) : Prop where
  rows : es.toList = L.map (ent w)
  tab : Tw t (L.map fun p => p.1.hash w)
  nd : (L.map (·.1)).Nodup
  led : w.params.followText "set-order" = true ∨ t.led = true
  room : L.length * 5 < t.mask * 3
  few : L.length ≤ 9900
section
variable {P : Program} {w : World} {A : Around} {E : Value → Shared → Prop} {s : Shared} {a : Addr} {L : List (NestedKey × Addr)} {es : Array (Int × Value)} {ep : Nat} {t : SetTable}
theorem Ns.size (R : Ns w L es t) : es.size = L.length := by rw [← Array.length_toList, R.rows, List.length_map]
theorem Ns.at_ (R : Ns w L es t) {i : Nat} {p : NestedKey × Addr} (h : L[i]? = some p) : es[i]? = some (ent w p) := by
  rw [← Array.getElem?_toList, R.rows, List.getElem?_map, h]; rfl
end
end Lr
namespace Lr
open PySem L2 PySem.Spec PySem.Froz
open PyProof.Rows hiding St
section
variable {P : Program} {w : World} {A : Around} {E : Value → Shared → Prop} {s : Shared} {a : Addr} {L : List (NestedKey × Addr)} {es : Array (Int × Value)} {ep : Nat} {t : SetTable}
end
end Lr
namespace Lr
open PySem L2 PySem.Spec PySem.Froz
open PyProof.Rows hiding St
section
variable {P : Program} {w : World}
end
section
variable {nm : Nm} {X : Cx} {W : XW}
end
section
variable {nm : Nm} {X : Cx} {W : XW} {a : Expr} {ma : M} {p p2 q pos : Pos}
end
end Lr
namespace Lr
open PySem L2
section
variable {α : Type} {f : α → D} {lt : α → α → Prop}
structure OrdE (f : α → D) (lt : α → α → Prop) : Prop extends Ord f lt where
  al : ∀ a b, PySem.W.alike (toP (f a)) (toP (f b)) = true
  eq : ∀ a b, PyData.eqv (toP (f a)) (toP (f b)) = true ↔ a = b
noncomputable def lxL (lt : α → α → Prop) : List α → List α → Prop
  | [], [] => False
  | [], _ :: _ => True
  | _ :: _, [] => False
  | a :: r, b :: q => lt a b ∨ (a = b ∧ lxL lt r q)
theorem toP_tp (xs : List α) : toP (kTp f xs) = .tuple (xs.map fun a => toP (f a)) := by
  have key : ∀ xs : List α, toPs (xs.map f) = xs.map fun a => toP (f a) := by
    intro xs
    induction xs with
    | nil => rfl
    | cons a r ih => rw [List.map_cons, List.map_cons, ← ih]; rfl
  show PyData.tuple (toPs (xs.map f)) = _
  rw [key]
theorem OrdE.lex (O : OrdE f lt) : ∀ xs ys : List α, PyProof.Rows.lexLt PyProof.Rows.itemOrd (PySem.W.keyToksAll (xs.map fun a => toP (f a))) (PySem.W.keyToksAll (ys.map fun a => toP (f a))) = true ↔ lxL lt xs ys
  | [], [] => by
    rw [show PyProof.Rows.lexLt PyProof.Rows.itemOrd (PySem.W.keyToksAll (([] : List α).map fun a => toP (f a))) (PySem.W.keyToksAll (([] : List α).map fun a => toP (f a))) = false from PyProof.Rows.lex_irrefl _]
    simp [lxL]
  | [], b :: q => by
    rw [List.map_nil, List.map_cons, PySem.W.toks_all_cons]
    unfold PySem.W.keyToksAll
    rw [PyProof.Rows.lex_diff (O := PyProof.Rows.itemOrd) (by simp)]
    exact ⟨fun _ => trivial, fun _ => rfl⟩
  | a :: r, [] => by
    rw [List.map_nil, List.map_cons, PySem.W.toks_all_cons]
    unfold PySem.W.keyToksAll
    rw [PyProof.Rows.lex_diff (O := PyProof.Rows.itemOrd) (by simp)]
    exact ⟨fun h => (by cases h), fun h => h.elim⟩
  | a :: r, b :: q => by
    rw [List.map_cons, List.map_cons]
    by_cases e : a = b
    · rw [PySem.W.dataLt_all_yes (O.al a b) ((O.eq a b).mpr e), O.lex r q]
      exact ⟨fun h => .inr ⟨e, h⟩, fun h => h.elim (fun z => absurd z (e ▸ O.irr a)) fun z => z.2⟩
    · rw [PySem.W.dataLt_all_no (O.al a b) (by rw [← Bool.not_eq_true]; exact fun z => e ((O.eq a b).mp z)), O.is]
      exact ⟨.inl, fun h => h.elim id fun z => absurd z.1 e⟩
theorem OrdE.al_all (O : OrdE f lt) : ∀ xs ys : List α, PySem.W.alikeAll (xs.map fun a => toP (f a)) (ys.map fun a => toP (f a)) = true
  | [], _ => by rw [List.map_nil]; unfold PySem.W.alikeAll; rfl
  | _ :: _, [] => by rw [List.map_nil, List.map_cons]; unfold PySem.W.alikeAll; rfl
  | x :: xs, y :: ys => by
    rw [List.map_cons, List.map_cons]
    unfold PySem.W.alikeAll
    rw [O.al, O.al_all xs ys]; rfl
theorem OrdE.eq_all (O : OrdE f lt) : ∀ xs ys : List α, PyData.eqvAll (xs.map fun a => toP (f a)) (ys.map fun a => toP (f a)) = true ↔ xs = ys
  | [], [] => by simp [PyData.eqvAll]
  | [], _ :: _ => by simp [PyData.eqvAll]
  | _ :: _, [] => by simp [PyData.eqvAll]
  | x :: xs, y :: ys => by
    rw [List.map_cons, List.map_cons]
    unfold PyData.eqvAll
    rw [Bool.and_eq_true, O.eq, O.eq_all xs ys, List.cons.injEq]
theorem OrdE.list (O : OrdE f lt) : OrdE (kTp f) (lxL lt) where
  is := fun a b => by rw [toP_tp, toP_tp, PySem.W.dataLt_tuple]; exact O.lex a b
  tr := by
    intro a
    induction a with
    | nil =>
      intro b c h1 h2
      cases b with
      | nil => exact h1.elim
      | cons y q => cases c with
        | nil => exact h2.elim
        | cons z s => trivial
    | cons x r ih =>
      intro b c h1 h2
      cases b with
      | nil => exact h1.elim
      | cons y q => cases c with
        | nil => exact h2.elim
        | cons z s =>
          rcases h1 with h1 | ⟨rfl, h1⟩ <;> rcases h2 with h2 | ⟨rfl, h2⟩
          · exact .inl (O.tr _ _ _ h1 h2)
          · exact .inl h1
          · exact .inl h2
          · exact .inr ⟨rfl, ih q s h1 h2⟩
  irr := by
    intro a
    induction a with
    | nil => exact id
    | cons x r ih => exact fun h => h.elim (O.irr x) fun z => ih z.2
  tri := by
    intro a
    induction a with
    | nil =>
      intro b h e
      cases b with
      | nil => exact absurd rfl e
      | cons y q => exact absurd trivial h
    | cons x r ih =>
      intro b h e
      cases b with
      | nil => trivial
      | cons y q =>
        by_cases exy : x = y
        · subst exy
          exact .inr ⟨rfl, ih q (fun z => h (.inr ⟨rfl, z⟩)) fun z => e (by rw [z])⟩
        · exact .inl (O.tri x y (fun z => h (.inl z)) exy)
  al := fun a b => by
    rw [toP_tp, toP_tp]
    unfold PySem.W.alike
    exact O.al_all a b
  eq := fun a b => by
    rw [toP_tp, toP_tp]
    unfold PyData.eqv
    exact O.eq_all a b
end
section
variable {α : Type} [DecidableEq α] {k : α → D} {lt : α → α → Prop} {S' : Type} {x : Bool} {γ : Sls S'} {ma : M}
end
noncomputable instance le8g : Le8 (.s (.s (.m .o (.m .o .o)))) := ⟨by decide⟩
end Lr
namespace Lr
open PySem L2 PySem.Spec
open PySem.Builtin PySem.Builtin.Str PySem.StrLaws
end Lr
namespace Lr
open PySem L2 PySem.Spec PySem.Froz
open PyProof.Rows hiding St
noncomputable def TkOk (T : Nat) (k : Str) (v : Value) : Prop := ∃ u, v = .str k u ∧ 1 ≤ u ∧ u < T
section
variable {P : Program} {w : World} {A : Around} {h0 : Heap} {S I : Addr} {x : Str}
structure WkT (P : Program) (w : World) (A : Around) (I : Addr) (x : Str) (St : Nat → Heap → Prop) : Prop where
  item : ∀ (i : Nat) (s : Shared) (c : Nat) (Q : Option Value → Shared → Prop) (E : Value → Shared → Prop), x.cps[i]? = some c → St i s.heap →
    (∀ h', St (i + 1) h' → Heap.SameBut I s.heap h' → Q (some (.str ⟨#[c]⟩ s.toks)) { s with heap := h', toks := s.toks + 1 }) → wpAny (model P w) A (pyNext (.ref I)) Q E s
  done : ∀ (s : Shared) (Q : Option Value → Shared → Prop) (E : Value → Shared → Prop), St x.cps.size s.heap → (∀ h', Heap.ExtBut I s.heap h' → Q none { s with heap := h' }) → wpAny (model P w) A (pyNext (.ref I)) Q E s
  frame : ∀ i h h', St i h → (∀ o, h.get? I = some o → h'.get? I = some o) → St i h'
theorem TkOk.up {T T' : Nat} {k : Str} {v : Value} (h : TkOk T k v) (l : T ≤ T') : TkOk T' k v := let ⟨u, a, b, c⟩ := h; ⟨u, a, b, Nat.lt_of_lt_of_le c l⟩
end
section
variable {P : Program} {w : World} {A : Around} {E : Value → Shared → Prop} {s : Shared} {x : Str} {t : Tok}
end
end Lr
namespace Lr
open PySem L2 PySem.Spec PySem.Froz PySem.W
open PyProof.Rows hiding St
section
variable {X : Cx} {pins : List (Addr × Obj)} {σ : L2.St} {H : Hp} {s : Shared}
end
end Lr
namespace Lr
open PySem PySem.Sem
end Lr
namespace Lr
open PySem L2 PySem.Spec PySem.W
open PyProof.Rows hiding St
section
variable {X : Cx} {pins : List (Addr × Obj)} {σ : L2.St} {H : Hp} {s : Shared}
end
end Lr
namespace Lr
open PySem L2 PySem.Spec PySem.W
open PyProof.Rows hiding St
theorem TkOk.rel {T : Nat} {k : Str} {v : Value} (h : TkOk T k v) : RelV (.str k) v := let ⟨u, e, _⟩ := h; ⟨u, e⟩
section
variable {nm : Nm} {X : Cx} {W : XW} {rest : List Stmt} {m : SM}
end
end Lr
namespace Lr
open PySem L2
section
variable {P : Program} {w : World} {K : PySem.W.Frag} {mg : Str → Option Value} {base : Heap} {nm : Nm} {m qual : Str} {st : Stmt} {N ps : List Str} {k : Nat} {C : Addr}
end
section
variable {S' : Type} {x : Bool} {γ : Sls S'}
end
end Lr
namespace Lr
open PySem L2
end Lr
namespace Lr
open PySem L2
noncomputable def gr (c : Nat) : Nat := c - 32
noncomputable def low (c : Nat) : Prop := 97 ≤ c ∧ c ≤ 122
noncomputable def tlN (s : Nat) : Nat := if 65 ≤ s ∧ s ≤ 90 then 63 else s
structure FRow where
  row : List Nat
  may : List (List Nat)
  fst : List Int
namespace FRow
variable (F : FRow)
noncomputable def hr (j : Int) : Nat := if 0 ≤ j ∧ j < F.row.length then (F.row[j.toNat]?).getD 46 else 46
noncomputable def mayN (j : Int) : List Nat := (F.may[j.toNat]?).getD []
noncomputable abbrev Ld := List (Int × Nat)
structure Ok : Prop where
  mlen : F.may.length = F.row.length
  mlow : ∀ m ∈ F.may, ∀ c ∈ m, low c
  mnd : ∀ m ∈ F.may, m.Nodup
variable {F}
theorem Ok.mayN (h : F.Ok) {j : Int} {c : Nat} (hc : c ∈ F.mayN j) : low c := by
  unfold FRow.mayN at hc
  cases e : F.may[j.toNat]? with
  | none => rw [e] at hc; simp at hc
  | some m => rw [e] at hc; exact h.mlow m (List.mem_of_getElem? e) c hc
inductive St (F : FRow) (col : Int) (c : Nat) (rack : List Nat) : Ld → List Nat → Prop where
  | lain : F.hr col ≠ 46 → loC (F.hr col) = c → St F col c rack [] rack
  | tile : F.hr col = 46 → c ∈ F.mayN col → c ∈ rack → St F col c rack [(col, c)] (rack.erase c)
  | blank : F.hr col = 46 → c ∈ F.mayN col → 63 ∈ rack → St F col c rack [(col, gr c)] (rack.erase 63)
inductive Pt (F : FRow) (d : Int) : Int → List Nat → List Nat → Ld → List Nat → Prop where
  | nil (col : Int) (rack : List Nat) : Pt F d col [] rack [] rack
  | cons {col : Int} {c : Nat} {v rack M r1 N r2} : 0 ≤ col → col < F.row.length → St F col c rack M r1 → Pt F d (col + d) v r1 N r2 → Pt F d col (c :: v) rack (M ++ N) r2
theorem Pt.in {d col : Int} {v rack M r'} (h : Pt F d col v rack M r') : v = [] ∨ (0 ≤ col ∧ col < F.row.length) := by
  cases h with
  | nil => exact .inl rfl
  | cons a b _ _ => exact .inr ⟨a, b⟩
end FRow
end Lr
namespace Lr
open PySem L2
noncomputable def Sub (ts rack : List Nat) : Prop := ∀ t, ts.count t ≤ rack.count t
noncomputable def dif (rack ts : List Nat) : List Nat := ts.foldl List.erase rack
namespace FRow
variable {F : FRow}
inductive Fs (F : FRow) (col : Int) (c : Nat) : Ld → Prop where
  | lain : F.hr col ≠ 46 → loC (F.hr col) = c → Fs F col c []
  | tile : F.hr col = 46 → c ∈ F.mayN col → Fs F col c [(col, c)]
  | blank : F.hr col = 46 → c ∈ F.mayN col → Fs F col c [(col, gr c)]
noncomputable def tlz (M : Ld) : List Nat := M.map fun q => tlN q.2
inductive Fit (F : FRow) (d : Int) : Int → List Nat → Ld → Prop where
  | nil (col : Int) : Fit F d col [] []
  | cons {col : Int} {c : Nat} {v M N} : 0 ≤ col → col < F.row.length → Fs F col c M → Fit F d (col + d) v N → Fit F d col (c :: v) (M ++ N)
structure At (F : FRow) (rack w : List Nat) (st : Int) (M : Ld) : Prop where
  fit : Fit F 1 st w M
  sub : Sub (tlz M) rack
  left : F.hr (st - 1) = 46
  right : F.hr (st + w.length) = 46
end FRow
end Lr
namespace Lr
open PySem L2
namespace FRow
variable {F : FRow}
end FRow
end Lr
namespace Lr
open PySem L2
noncomputable def cellS (c : Nat) : Prop := c = 46 ∨ low c ∨ (65 ≤ c ∧ c ≤ 90)
namespace FRow
variable {F : FRow}
structure Good (F : FRow) : Prop extends F.Ok where
  cells : ∀ c ∈ F.row, cellS c
  hooks : ∀ j ∈ F.fst, 0 ≤ j ∧ j < F.row.length ∧ F.hr j = 46
  size : F.row.length ≤ 9
end FRow
end Lr
namespace Lr
open PySem L2
section
variable {x : Bool} {β : Type} {l : β → D}
end
end Lr
namespace Lr
open PySem L2
section
variable {S' α : Type} {x : Bool} {γ : Sls S'} {ma : M} {k : α → D}
end
end Lr
namespace Lr
open PySem L2 PySem.Spec
open Sem (wp)
section
variable {P : Program} {w : World} {A : Around} {E : Value → Shared → Prop} {s : Shared}
end
theorem drawn {P : Program} {w : World} {A : Around} (hh : A.handled = none) (it a : Addr) (its : Array Value) (n : Nat) (hn : its[n]? = none) :
    Draws P w A it [it, a] n (fun _ _ => False) (fun i h => i = n ∧ h.IsTupleIter it a n ∧ h.IsTuple a its) where
  live := fun _ _ q => by
    obtain ⟨_, ⟨o, ho, _⟩, _⟩ := q
    exact ⟨o, ho⟩
  frame := fun _ _ _ q k => ⟨q.1, q.2.1.at fun o y => k it (by simp) o y, q.2.2.at fun o y => k a (by simp) o y⟩
  item := fun i s Q E hi q _ => absurd q.1 (Nat.ne_of_lt hi)
  done := fun s Q E q k => wpAny_nextOf_tuple_end hh q.2.1 q.2.2 hn k
section
variable {t : Ct} {G H : Hp} {ρ : List Addr}
end
section
variable {nm : Nm} {X : Cx} {W : XW} {a : Expr} {pos p tpos : Pos} {ms : MA} {elts : List Expr} {kk : Nat}
end
section
variable {S' α : Type} {x : Bool} {γ : Sls S'} {ma : M} {k : α → D}
end
end Lr
namespace Lr
open PySem L2
section
variable {S' α β : Type} {x : Bool} {γ : Sls S'} {ma : M}
end
end Lr
namespace Lr
open PySem L2
local macro_rules | `(tactic| walk_at "dt") => `(tactic| ((try simp only [Dt.n] at *); omega))
section
variable {S' α β : Type} {x : Bool} {γ : Sls S'} {ma : M}
end
section
variable {α β δ ε ζ η θ : Type} {k : α → D} {l : β → D} {m : δ → D} {o : ε → D} {q : ζ → D} {u : η → D} {v : θ → D} {n n2 n3 n4 n5 n6 n7 : Dt}
noncomputable def kT6 (k : α → D) (l : β → D) (m : δ → D) (o : ε → D) (q : ζ → D) (u : η → D) : α × β × δ × ε × ζ × η → D := fun p => .tup [k p.1, l p.2.1, m p.2.2.1, o p.2.2.2.1, q p.2.2.2.2.1, u p.2.2.2.2.2]
noncomputable def kT7 (k : α → D) (l : β → D) (m : δ → D) (o : ε → D) (q : ζ → D) (u : η → D) (v : θ → D) : α × β × δ × ε × ζ × η × θ → D := fun p => .tup [k p.1, l p.2.1, m p.2.2.1, o p.2.2.2.1, q p.2.2.2.2.1, u p.2.2.2.2.2.1, v p.2.2.2.2.2.2]
noncomputable instance [Kn k n] [Kn l n2] [Kn m n3] [Kn o n4] [Kn q n5] [Kn u n6] : Kn (kT6 k l m o q u) (.s (.m n (.m n2 (.m n3 (.m n4 (.m n5 n6)))))) := ⟨fun a => nrs2 (Kn.nr a.1) (nrs2 (Kn.nr a.2.1) (nrs2 (Kn.nr a.2.2.1) (nrs2 (Kn.nr a.2.2.2.1) (nrs2 (Kn.nr a.2.2.2.2.1) (nrs2 (Kn.nr a.2.2.2.2.2) rfl))))), fun a μ j h => il_tup (fun j hj => mapO_cons (Kn.il a.1 μ j (by walk_at "dt")) (mapO_cons (Kn.il a.2.1 μ j (by walk_at "dt")) (mapO_cons (Kn.il a.2.2.1 μ j (by walk_at "dt")) (mapO_cons (Kn.il a.2.2.2.1 μ j (by walk_at "dt")) (mapO_cons (Kn.il a.2.2.2.2.1 μ j (by walk_at "dt")) (mapO_cons (Kn.il a.2.2.2.2.2 μ j (by walk_at "dt")) mapO_nil)))))) h⟩
noncomputable instance [Kf k n] [Kf l n2] [Kf m n3] [Kf o n4] [Kf q n5] [Kf u n6] : Kf (kT6 k l m o q u) (.s (.m n (.m n2 (.m n3 (.m n4 (.m n5 n6)))))) := ⟨fun a μ j h => il_tup (fun j hj => mapO_cons (Kf.il a.1 μ j (by walk_at "dt")) (mapO_cons (Kf.il a.2.1 μ j (by walk_at "dt")) (mapO_cons (Kf.il a.2.2.1 μ j (by walk_at "dt")) (mapO_cons (Kf.il a.2.2.2.1 μ j (by walk_at "dt")) (mapO_cons (Kf.il a.2.2.2.2.1 μ j (by walk_at "dt")) (mapO_cons (Kf.il a.2.2.2.2.2 μ j (by walk_at "dt")) mapO_nil)))))) h⟩
noncomputable instance [Kn k n] [Kn l n2] [Kn m n3] [Kn o n4] [Kn q n5] [Kn u n6] : Kv (kT6 k l m o q u) := kv_nc fun _ => rfl
noncomputable instance [Kn k n] [Kn l n2] [Kn m n3] [Kn o n4] [Kn q n5] [Kn u n6] [Kn v n7] : Kn (kT7 k l m o q u v) (.s (.m n (.m n2 (.m n3 (.m n4 (.m n5 (.m n6 n7))))))) := ⟨fun a => nrs2 (Kn.nr a.1) (nrs2 (Kn.nr a.2.1) (nrs2 (Kn.nr a.2.2.1) (nrs2 (Kn.nr a.2.2.2.1) (nrs2 (Kn.nr a.2.2.2.2.1) (nrs2 (Kn.nr a.2.2.2.2.2.1) (nrs2 (Kn.nr a.2.2.2.2.2.2) rfl)))))), fun a μ j h => il_tup (fun j hj => mapO_cons (Kn.il a.1 μ j (by walk_at "dt")) (mapO_cons (Kn.il a.2.1 μ j (by walk_at "dt")) (mapO_cons (Kn.il a.2.2.1 μ j (by walk_at "dt")) (mapO_cons (Kn.il a.2.2.2.1 μ j (by walk_at "dt")) (mapO_cons (Kn.il a.2.2.2.2.1 μ j (by walk_at "dt")) (mapO_cons (Kn.il a.2.2.2.2.2.1 μ j (by walk_at "dt")) (mapO_cons (Kn.il a.2.2.2.2.2.2 μ j (by walk_at "dt")) mapO_nil))))))) h⟩
noncomputable instance [Kf k n] [Kf l n2] [Kf m n3] [Kf o n4] [Kf q n5] [Kf u n6] [Kf v n7] : Kf (kT7 k l m o q u v) (.s (.m n (.m n2 (.m n3 (.m n4 (.m n5 (.m n6 n7))))))) := ⟨fun a μ j h => il_tup (fun j hj => mapO_cons (Kf.il a.1 μ j (by walk_at "dt")) (mapO_cons (Kf.il a.2.1 μ j (by walk_at "dt")) (mapO_cons (Kf.il a.2.2.1 μ j (by walk_at "dt")) (mapO_cons (Kf.il a.2.2.2.1 μ j (by walk_at "dt")) (mapO_cons (Kf.il a.2.2.2.2.1 μ j (by walk_at "dt")) (mapO_cons (Kf.il a.2.2.2.2.2.1 μ j (by walk_at "dt")) (mapO_cons (Kf.il a.2.2.2.2.2.2 μ j (by walk_at "dt")) mapO_nil))))))) h⟩
noncomputable instance [Kn k n] [Kn l n2] [Kn m n3] [Kn o n4] [Kn q n5] [Kn u n6] [Kn v n7] : Kv (kT7 k l m o q u v) := kv_nc fun _ => rfl
end
end Lr
namespace Lr
open PySem L2 PySem.Spec
section
variable {nm : Nm} {X : Cx} {W : XW}
end
section
variable {x : Bool}
end
end Lr
namespace Lr
open PySem L2
section
variable {S' : Type} {x : Bool} {γ : Sls S'} {ma : M}
end
end Lr
namespace Lr
open PySem L2 PySem.Spec PyProof.Rows
section
variable {nm : Nm} {X : Cx} {W : XW}
end
section
variable {x : Bool} {α S' : Type} {k : α → D} {γ : Sls S'} {ma : M}
end
end Lr
namespace Lr
open PySem L2
noncomputable def putFs (c : Nat) (mo : M) (env : Ev) : List Nat → List D → Mu → Option Mu
  | [], [], μ => some μ
  | j :: js, d :: ds, μ => match mo env μ with
    | .ok (.ref n, μ2) => match μ2[n]? with
      | some (.obj c' fs) => if c' = c then (match setF j d fs with
        | some fs' => putFs c mo env js ds (μ2.set n (.obj c fs'))
        | none => none) else none
      | _ => none
    | _ => none
  | _, _, _ => none
structure FVs (nm : Nm) (X : Cx) (W : XW) (c : Nat) (mo : M) (tgs : List Expr) (js : List Nat) : Prop where
  run : ∃ t, PGs X tgs t ∧ ∀ env μ σ H ρ G ds vs μ' Q, Rel (ct nm X) G ρ env μ σ H → reps (ct nm X) G ρ ds vs → putFs c mo env js ds μ = some μ' → (∀ H' ρ' G', Ext G ρ H G' ρ' H' → Rel (ct nm X) G' ρ' env μ' σ H' → Q σ H') → t vs σ H Q
section
variable {nm : Nm} {X : Cx} {W : XW} {c : Nat} {C : Addr} {mo ma : M} {o e : Expr} {pos pos' : Pos}
end
end Lr
namespace Lr
open PySem L2
end Lr
namespace Lr
open PySem L2
noncomputable instance : Kt (kT2 D.int D.int) := ⟨fun a => rfl, fun a b => by
  have e : kEq (kT2 D.int D.int a) (kT2 D.int D.int b) = match keyT (kT2 D.int D.int a), keyT (kT2 D.int D.int b) with
    | some x, some y => decide (x = y)
    | _, _ => false := rfl
  rw [e]
  obtain ⟨a1, a2⟩ := a
  obtain ⟨b1, b2⟩ := b
  show decide (([.inl a1, .inl a2] : List L2.Key) = [.inl b1, .inl b2]) = decide _
  rw [decide_eq_decide]
  constructor
  · intro h
    simp at h
    rw [h.1, h.2]
  · intro h
    cases h; rfl, fun _ => rfl⟩
end Lr
namespace Lr
open PySem L2 PySem.Spec PySem.W
open PyProof.Rows hiding St
section
variable {t : Ct} {G H : Hp} {ρ : List Addr} {env : Ev} {μ : Mu} {σ : L2.St}
end
section
variable {X : Cx} {pins : List (Addr × Obj)} {σ : L2.St} {H : Hp} {s : Shared}
end
structure Lam1 (x : Str) (params : Arguments) (scope : Scope) : Prop where
  kind : scope.kind = .function
  co : scope.isCoroutine = false
  gen : scope.isGenerator = false
  nms : scope.names = [(x, .local)]
  bind : ∀ (u pm cv tv : Value) (body : Expr), bindArgs (kla_fn "<lambda>" lamQ params body scope [] pm cv tv) ⟨[u], []⟩ = pure [(x, u)]
section
variable {prog : Program} {w : World} {A : Around} {s : Shared}
end
section
variable {nm : Nm} {X : Cx} {W : XW}
end
end Lr
namespace Lr
open PySem L2
open PyProof.Rows (envOfC)
section
variable {P : Program} {w : World} {K : PySem.W.Frag} {mg : Str → Option Value} {base h : Heap} {nm : Nm} {x : Str} {st : Stmt} {N ps : List Str} {k : Nat} {sm : SM} {f c : Addr}
end
end Lr
namespace Lr
open PySem L2 PySem.Spec
open PyProof.Rows hiding St
section
variable {β : Type} {l : β → D} {x : Bool}
end
end Lr
namespace Lr
open PySem L2 PySem.Spec
open PyProof.Rows hiding St
section
variable {t t' : Ct} {G : Hp} {ρ : List Addr} (hK : t.K = t'.K) (hm : t.mg = t'.mg) (hc : t.nm.cn = t'.nm.cn) (hf : t.nm.cf = t'.nm.cf)
include hK hm hc hf
mutual
theorem rep.nm : ∀ (d : D) (v : V), rep t G ρ d v → rep t' G ρ d v
  | .non, _, h => h
  | .bl _, _, h => h
  | .int _, _, h => h
  | .str _, _, h => h
  | .tup ds, _, ⟨a, vs, e, q, r⟩ => ⟨a, vs, e, q, reps.nm ds vs r⟩
  | .lst ds, _, ⟨a, vs, e, q, r⟩ => ⟨a, vs, e, q, reps.nm ds vs r⟩
  | .scr ds, _, ⟨a, vs, e, q, r⟩ => ⟨a, vs, e, by rw [← hK]; exact q, reps.nm ds vs r⟩
  | .dic kvs, _, ⟨a, ks, e, q, r⟩ => ⟨a, ks, e, q, repk.nm kvs ks r⟩
  | .dit kvs, _, ⟨a, ks, e, q, r⟩ => ⟨a, ks, e, q, repkT.nm kvs ks r⟩
  | .obj c ds, _, ⟨a, C, dx, vs, e, m, q, l, r⟩ => ⟨a, C, dx, vs, e, by rw [← hm, ← hc]; exact m, by rw [← hf]; exact q, by rw [← hf]; exact l, reps.nm ds vs r⟩
  | .ref n, _, ⟨a, e, q⟩ => ⟨a, e, q⟩
  | .tpz ds, _, ⟨a, vs, e, q, r⟩ => ⟨a, vs, e, q, reps.nm ds vs r⟩
  | .din _, _, h => h
  | .exc c ds, _, ⟨a, C, dx, e, m, q, r⟩ => ⟨a, C, dx, e, by rw [← hm, ← hc]; exact m, q, r.imp id fun ⟨d, vs, e1, e2, l, r⟩ => ⟨d, vs, e1, by rw [← hf]; exact e2, by rw [← hf]; exact l, reps.nm ds vs r⟩⟩
theorem reps.nm : ∀ (ds : List D) (vs : List V), reps t G ρ ds vs → reps t' G ρ ds vs
  | [], _, h => h
  | d :: ds, _, ⟨v, r, e, h1, h2⟩ => ⟨v, r, e, rep.nm d v h1, reps.nm ds r h2⟩
theorem repk.nm : ∀ (ds : List (D × D)) (vs : List (Key × V)), repk t G ρ ds vs → repk t' G ρ ds vs
  | [], _, h => h
  | (k, d) :: ds, _, ⟨k', v, r, e, hk, h1, h2⟩ => ⟨k', v, r, e, hk, rep.nm d v h1, repk.nm ds r h2⟩
theorem repkT.nm : ∀ (ds : List (D × D)) (vs : List (List Key × V)), repkT t G ρ ds vs → repkT t' G ρ ds vs
  | [], _, h => h
  | (k, d) :: ds, _, ⟨k', v, r, e, hk, h1, h2⟩ => ⟨k', v, r, e, hk, rep.nm d v h1, repkT.nm ds r h2⟩
end
theorem repn.nm : ∀ (ds : List (D × D)) (xs : List NE), repn t G ρ ds xs → repn t' G ρ ds xs
  | [], _, h => h
  | (k, d) :: ds, _, ⟨nk, b, v, r, e, hk, hd, h0, h1, h2⟩ => ⟨nk, b, v, r, e, hk, hd, rep.nm hK hm hc hf k _ h0, rep.nm hK hm hc hf d v h1, repn.nm ds r h2⟩
theorem cell.nm (hw : t.w = t'.w) {H : Hp} {a : Addr} : ∀ {d : D}, cell t G ρ H a d → cell t' G ρ H a d
  | .lst ds, ⟨vs, e, r⟩ => ⟨vs, e, reps.nm hK hm hc hf _ _ r⟩
  | .dic kvs, ⟨ks, e, r⟩ => ⟨ks, e, repk.nm hK hm hc hf _ _ r⟩
  | .dit kvs, ⟨ks, e, r⟩ => ⟨ks, e, repkT.nm hK hm hc hf _ _ r⟩
  | .obj c ds, ⟨C, dx, vs, m, e, l, r⟩ => ⟨C, dx, vs, by rw [← hm, ← hc]; exact m, by rw [← hf]; exact e, by rw [← hf]; exact l, reps.nm hK hm hc hf _ _ r⟩
  | .din kvs, ⟨xs, e, n, z1, z2, r⟩ => ⟨xs, by rw [← hw]; exact e, n, z1, z2, repn.nm hK hm hc hf _ _ r⟩
theorem Rel.nm (hw : t.w = t'.w) {H : Hp} {env : Ev} {μ : Mu} {σ : L2.St} (R : Rel t G ρ env μ σ H) (hT : ∀ p ∈ t'.nm.tb, TabH G H p.1 p.2) : Rel t' G ρ env μ σ H :=
  ⟨R.sub, R.nd, R.gn, R.len, fun n a d e1 e2 => (R.cells n a d e1 e2).nm hK hm hc hf hw, R.slen, fun i d e => (R.slots i d e).imp fun v h => ⟨h.1, rep.nm hK hm hc hf _ _ h.2⟩, hT⟩
end
noncomputable def Nm.hot (nm : Nm) (a : Addr) : Nm := { nm with tb := (a, hotQ) :: nm.tb }
section
variable {nm : Nm} {X : Cx} {G H : Hp} {ρ : List Addr} {env : Ev} {μ : Mu} {σ : L2.St} {a : Addr}
theorem Rel.heat (R : Rel (ct nm X) G ρ env μ σ H) (C : Addr) (dx : Option Addr) (h : G a = some (ExV a C dx)) : Rel (ct (nm.hot a) X) G ρ env μ σ H :=
  R.nm (t := ct nm X) (t' := ct (nm.hot a) X) rfl rfl rfl rfl rfl fun p hp => by
    rcases List.mem_cons.mp hp with rfl | hp
    · exact .inl ⟨rfl, C, dx, h⟩
    · exact R.tab p hp
theorem Rel.cool (R : Rel (ct (nm.hot a) X) G ρ env μ σ H) : Rel (ct nm X) G ρ env μ σ H :=
  R.nm (t := ct (nm.hot a) X) (t' := ct nm X) rfl rfl rfl rfl rfl fun p hp => R.tab p (List.mem_cons_of_mem _ hp)
end
section
variable {nm : Nm} {X : Cx} {x n : Str} {c0 : Value} {i : Nat} {body suite : List Stmt} {b₀ : Stmt} {npx pos pos' : Pos} {Wout : WX} {mb ms : SM} {cat : Nat → Option Bool}
theorem sv_tryH (hs : X.stack = X.env :: X.outer) (hf : X.env.frame = some X.env.locals) (hex : X.ex = []) (hN : X.N.Nodup) (hi : X.N[i]? = some n) (hln : X.env.kindOf n = some .local) (hc : Names X x c0) (tk : L2N.Takes X Wout)
    (hcat : ∀ c b, cat c = some b → ∀ C, X.mg (nm.cn c) = some (.ref C) → PySem.W.exmOne X.K (.ref C) c0 = some b)
    (hb : ∀ (W : WX) (pn : List (Addr × Obj)) (xe : Value → Shared → Prop), L2N.Takes (X.tr pn xe) W → PassesOwn (model X.prog X.w) X.A X.env xe → BV nm (X.tr pn xe) W body mb)
    (hsu : ∀ (a : Addr) (pn : List (Addr × Obj)), BV (nm.hot a) (X.suite a pn) (fun _ _ _ _ => False) (b₀ :: suite) ms) :
    SV nm X Wout (.Try body [.ExceptHandler (some (.Name x npx)) (some n) (b₀ :: suite) pos'] [] [] pos) (sTryA cat i mb ms) := ⟨fun env μ σ H ρ G D R P => by
  refine to_s (ps_try_keep (c := c0) (Wout := Wout) (tb := fun W D σ H => ∀ pn xe, L2N.Takes (X.tr pn xe) W → PassesOwn (model X.prog X.w) X.A X.env xe → wpSs (X.tr pn xe) body D σ H)
    (ts := fun a D σ H => ∀ pn, wpSs (X.suite a pn) (b₀ :: suite) D σ H) hs hf hex hN hi hln hc tk
    (fun W pn xe t p => ⟨fun pins s σ H D I h => h pn xe t p pins s I⟩) (fun a pn => ⟨fun pins s σ H D I h => h pn pins s I⟩)) ?_
  intro pn xe t p
  refine (hb _ pn xe t p).run env μ σ H ρ G D R ?_
  unfold sTryA at P
  cases q : mb env μ with
  | none => rw [q] at P; exact P.elim
  | some o =>
    rw [q] at P
    cases o with
    | nx => exact P
    | rt => exact P
    | bk => exact P
    | ct => exact P
    | xc c ds e' μ' =>
      intro C dx σ' H' ρ' G' mm ex R' xf
      dsimp only at P
      cases z : cat c with
      | none => rw [z] at P; exact P.elim
      | some b =>
        rw [z] at P
        refine ⟨b, C, rfl, hcat c b z C mm, fun hb' a na => ?_, fun hb' => ?_⟩
        · subst hb'
          intro pn2
          obtain ⟨R2, e2⟩ := R'.laidG (ExV a C dx) na
          have rv : rep (ct nm X) (upd G' a (ExV a C dx)) ρ' (.exc c ds) (.ref a) := ⟨a, C, dx, rfl, mm, upd_same, xf.imp id fun ⟨d, vs, x1, x2, x3, x4⟩ => ⟨d, vs, x1, e2.sub _ _ x2, x3, e2.reps x4⟩⟩
          have e3 := ex.trans e2
          refine (hsu a pn2).run _ μ' _ _ ρ' _ (endU i D) ((R2.setSlot rv).heat C dx upd_same) ?_
          dsimp only at P
          cases w : ms (e'.set i (some (.exc c ds))) μ' with
          | none => rw [w] at P; exact P.elim
          | some o =>
            rw [w] at P
            cases o with
            | nx e6 μ6 => exact fun σ6 H6 ρ6 G6 x6 R6 => P _ H6 ρ6 G6 (e3.trans x6) (R6.cool.unset i)
            | bk e6 μ6 => exact fun σ6 H6 ρ6 G6 x6 R6 => P _ H6 ρ6 G6 (e3.trans x6) (R6.cool.unset i)
            | ct e6 μ6 => exact fun σ6 H6 ρ6 G6 x6 R6 => P _ H6 ρ6 G6 (e3.trans x6) (R6.cool.unset i)
            | rt d6 μ6 => exact fun v H6 ρ6 G6 x6 R6 r6 => P v H6 ρ6 G6 (e3.trans x6) R6.cool (rep.nm (t := ct (nm.hot a) X) (t' := ct nm X) rfl rfl rfl rfl _ _ r6)
            | xc c6 ds6 e6 μ6 => exact P.elim
        · subst hb'
          have P : KS (ct nm X) Wout G ρ H D (.xc c ds e' μ') := P
          exact P C dx σ' H' ρ' G' mm ex R' xf⟩
end
theorem takesN0 {X : Cx} : L2N.Takes X (fun _ _ _ _ => False) := fun _ _ x => by
  obtain ⟨_, _, _, _, _, _, _, _, _, _, _, _, _, _, _, _, z⟩ := x
  exact z.elim
section
open HotX
variable {prog : Program} {w : World} {A : Around} {E : Value → Shared → Prop} {s : Shared}
theorem next_list_end_hot {it l x1 : Addr} {i : Nat} {items : Array Value} {Q : Option Value → Shared → Prop} (hot : HotAt A x1 s.heap) (hne : x1 ≠ it)
    (hit : s.heap.IsListIter it l i) (hl : s.heap.IsList l items) (hx : items[i]? = none)
    (hQ : ∀ h', Heap.ExtBut it s.heap h' → Q none { s with heap := h' }) : wpAny (model prog w) A (pyNext (.ref it)) Q E s := by
  obtain ⟨o, ho, hc, hd⟩ := id hit
  obtain ⟨ol, hol, _, nl, hdl⟩ := hl
  obtain ⟨hh, o1, vs1, h1, d1, c1⟩ := hot
  unfold pyNext
  refine wpAny_bind (wpAny_attempt (wpAny_callSpecial?_slot (name := Str.ofString "__next__") hit.typeIs slot_listiter_next
    (wpAny_call_entry slot_listiter_next hit.typeIs entry_listiter_next ?_ (args_listiter_next _))))
  show wpAny _ _ (field (.ref it) 0 >>= _) _ _ s
  refine wpAny_bind (wpAny_field ho hd (x := .ref l) rfl ?_)
  show wpAny _ _ (if (Value.ref l == Value.none) = true then _ else _) _ _ s
  rw [if_neg (show ¬ ((Value.ref l == Value.none) = true) from Bool.false_ne_true)]
  show wpAny _ _ (field (.ref it) 1 >>= _) _ _ s
  refine wpAny_bind (wpAny_field ho hd (x := .int i 0) rfl ?_)
  show wpAny _ _ (seqItems? (.ref l) >>= _) _ _ s
  refine wpAny_bind (wpAny_seqItems hol hdl ?_)
  simp only [Int.toNat_natCast, hx]
  refine wpAny_bind (wpAny_rule (wpAny_bind (wpAny_setField ho hd (by simp) ?_)))
  show wpAny _ _ (newExc (.type "StopIteration") [] >>= _) _ _ _
  refine wpAny_bind ?_
  simp only [newExc, newTuple]
  refine wpAny_bind (wpAny_newObj_type ?_ (by size_fits))
  refine wpAny_bind (m := firstArgMember _ _) (wpAny_of_eq (a := Value.none) (by first | rfl | (simp only [firstArgMember]; rfl)) ?_)
  refine wpAny_newObj_type ?_ (by size_fits)
  have e1 : ∀ f, (s.heap.update it f).get? x1 = some o1 := fun f => by rw [Heap.get?_update_other _ _ (Ne.symm hne)]; exact h1
  refine raiseNew_hot ⟨hh, o1, vs1, Heap.get?_push_of_some _ (Heap.get?_push_of_some _ (e1 _)), d1, c1⟩ (Nat.ne_of_lt (Heap.lt_size (Heap.get?_push_of_some _ (e1 _)))) (Heap.get?_push_size _ rfl) rfl (by first | (simp; done) | (simp; omega) | (simp only [Array.size_append]; simp; omega)) ?_
  refine wpAny_bind (wpAny_isInstance (T := "StopIteration") (b := true) ⟨_, Heap.get?_update_self _ (Heap.get?_push_size _ rfl) rfl, rfl⟩ isSubtype_stop ?_)
  refine wpAny_pure (hQ _ fun b o2 hb e => ?_)
  have eb : ∀ f, (s.heap.update it f).get? b = some o2 := fun f => by rw [Heap.get?_update_other _ _ (Ne.symm hb)]; exact e
  rw [Heap.get?_update_other _ _ (Nat.ne_of_gt (Heap.lt_size (Heap.get?_push_of_some _ (eb _))))]
  exact Heap.get?_push_of_some _ (Heap.get?_push_of_some _ (eb _))
theorem walks_list_hot {x1 : Addr} (hh : A.handled = some (.ref x1)) (I ax : Addr) (hne : ax ≠ I) (hn1 : x1 ≠ I) (items : Array Value) :
    Walks prog w A I [I, ax, x1] [I] items.size (fun i v => items[i]? = some v) (fun i h => (h.IsListIter I ax i ∧ h.IsList ax items) ∧ HotAt A x1 h) where
  sub := fun b hb => by simp at hb; simp [hb]
  frame := fun _ _ _ st hk => ⟨⟨st.1.1.at fun o e => hk I (by simp) o e, st.1.2.at fun o e => hk ax (by simp) o e⟩, st.2.1, by
    obtain ⟨_, o, vs, e, d, c⟩ := st.2
    exact ⟨o, vs, hk x1 (by simp) o e, d, c⟩⟩
  item := fun i s Q E hi st hQ => by
    refine wpAny_pyNext_list_item st.1.1 st.1.2 (x := items[i]) (by simp [hi]) fun h' hit' hs' => ?_
    obtain ⟨_, o, vs, e, d, c⟩ := st.2
    exact hQ _ h' s.toks (by simp [hi]) ⟨⟨hit', st.1.2.extBut hs'.extBut hne⟩, hh, o, vs, hs'.extBut x1 o hn1 e, d, c⟩ fun b o hb e => hs'.extBut b o (fun h => hb (by simp [h])) e
  done := fun s Q E st hQ => next_list_end_hot st.2 hn1 st.1.1 st.1.2 (by simp) fun h' he' => hQ h' s.toks fun b o hb e => he' b o (fun h => hb (by simp [h])) e
  self := fun _ _ _ _ st hQ => wpAny_pyIter_listiter st.1.1 hQ
end
section
variable {X : Cx} {nm : Nm} {W : XW}
noncomputable def rAnyH (X : Cx) : List V → Hp → VK → Prop := fun vs H Q => (∃ a C dx, X.A.handled = some (.ref a) ∧ H a = some (ExV a C dx)) ∧ rAny X.K vs H Q
theorem cr_anyH : CallR X (.builtin "any") (rAnyH X) := by
  intro pins s σ H vs us Q I r h
  obtain ⟨⟨x1, C, dx, hh, hx⟩, a, bs, rfl, hs, q⟩ := h
  obtain ⟨⟨oe, fs, he, hz, hd⟩, _⟩ := I.hok x1 _ hx
  obtain ⟨its, rv, hl, _⟩ := I.list hs
  rw [Vals.ref1 r]
  have hb := rv.bls
  refine call_any_walk (iter_any hl.isList fun s₂ e2 st hne => ?_)
  subst e2
  refine ⟨_, _, _, _, _, _, _, rfl, walks_list_hot (A := X.A.in1) (x1 := x1) hh _ a hne (Nat.ne_of_lt (Heap.lt_size he)) its.toArray, ⟨st, hh, oe, fs, Heap.get?_push_of_some _ he, hd, hz.2.2 fs hd⟩, truth_bools hb, fun h' tk hk => ?_⟩
  refine ⟨.bl _, H, I.kept fun b o eo => hk b o (fun hmem => ?_) (Heap.get?_push_of_some _ eo), ?_, q⟩
  · rcases List.mem_cons.mp hmem with e1 | hmem
    · exact absurd (e1 ▸ Heap.lt_size eo) (Nat.lt_irrefl _)
    · cases hmem
  · show Value.bool _ = Value.bool _
    rw [← L2.any_range, hb, List.size_toArray, List.length_map]
theorem opn_anyH {a : Addr} (hh : X.A.handled = some (.ref a)) : OpN (nm.hot a) X W (dBools fun bs => bs.any id) (rAnyH X) := fun env μ σ H ρ G Q ds vs R r P => by
  refine ⟨?_, opn_any env μ σ H ρ G Q ds vs R r P⟩
  rcases R.tab (a, hotQ) List.mem_cons_self with ⟨_, C, dx, z⟩ | ⟨z, _⟩
  · exact ⟨a, C, dx, hh, R.sub _ _ z⟩
  · exact absurd rfl z
end
end Lr
namespace Lr
open PySem L2 PySem.Spec
open PyProof.Rows hiding St
noncomputable def rCntS (K : PySem.W.Frag) : V → List V → Hp → VK → Prop := fun x xs H Q => ∃ (p : Addr) (ws : List (List Nat)) (k : List Nat), x = .ref p ∧ xs = [.str (S k)] ∧ SqL K H p ((ws.map S).map V.str) ∧ Q (.int (ws.count k : Nat)) H
noncomputable def mCountS : FM := fun d ds μ => match lof d μ with
  | some xs => match ds with
    | [.str k] => match textsOf xs with
      | some ws => .ok (.int (ws.count k : Nat), μ)
      | none => .no
    | _ => .no
  | none => .no
theorem count_eqs {k : List Nat} : ∀ {ws : List (List Nat)} {us : List Value}, Vals ((ws.map S).map V.str) us → us.countP (eqs (S k)) = ws.count k
  | [], us, r => by
    rw [List.map_nil, List.map_nil] at r
    cases r
    rfl
  | w :: ws, us, r => by
    rw [List.map_cons, List.map_cons] at r
    cases r with
    | cons rx rr =>
      obtain ⟨t, rfl⟩ := rx
      rw [List.countP_cons, List.count_cons, count_eqs rr]
      congr 1
section
variable {nm : Nm} {X : Cx} {W : XW}
theorem mt_scount : MtR X "list.count" (rCntS X.K) := by
  intro pins s σ H x xs v us Q I rx rxs h
  obtain ⟨p, ws, k, rfl, rfl, hs, q⟩ := h
  cases rx
  obtain ⟨u, rfl, ru⟩ := rxs.one
  obtain ⟨t, rfl⟩ := ru
  obtain ⟨its, rv, ⟨⟨cls, dd, data, sl⟩, n, ho, hc, hdn, hd⟩, hlen⟩ := I.list hs
  simp only at hc hd
  subst hc hd
  refine call_meets PySem.F.slot_list_count ⟨_, ho, rfl⟩ PySem.F.entry_list_count (PySem.F.args_list_count_2 _ _)
    (SeqAt.list_countAt p its.toArray n dd sl (.str (S k) t) (eqs (S k))) ⟨ho, fun y hy => (eqs_gives rv y (by simpa using hy)).at _ _, ?_⟩
  refine ⟨.int (ws.count k : Nat), H, I.tok _, ⟨s.toks, ?_⟩, q⟩
  show Value.int ((its.toArray.toList.countP (eqs (S k)) : Nat) : Int) s.toks = Value.int ((ws.count k : Nat) : Int) s.toks
  rw [show its.toArray.toList = its from rfl, count_eqs rv]
theorem opm_countS : OpM nm X W mCountS (rCntS X.K) := by
  intro env μ σ H ρ G Q d ds v vs R rv r P
  unfold mCountS at P
  split at P
  · rename_i xs e0
    obtain ⟨a, us, rfl, q, rs⟩ := lof_ok R rv e0
    split at P
    · rename_i k
      obtain ⟨w, r0, rfl, rw', hr⟩ := r
      cases hr
      obtain ⟨rfl, _⟩ := rw'
      split at P
      · rename_i ws e1
        cases textsOf_eq e1
        have := reps_texts rs
        subst this
        exact ⟨a, ws, k, rfl, rfl, q, P _ H ρ G .refl R rfl⟩
      · exact P.elim
    · exact P.elim
  · exact P.elim
end
end Lr
namespace T11
open PySem L2 Lr
noncomputable section
noncomputable def m__law_cell_at : SM := (sSeq (sIf (tVal (cB dLt (cV 1) (cF dLen (cCons (cV 0) cNil)))) (sRet (cB dIx (cV 0) (cV 1))) sNext)
  (sRet (cK (.int 0))))
noncomputable def F__law_cell_at : GF := bodyF 2 m__law_cell_at
noncomputable def m__law_due_b0 : SM := (sSeq (sSet 4 (cV 3))
  (sSeq (sIf (tVal (cB dNe (cM "str" mLower (cV 3) cNil) (cV 3))) (sSet 4 (cK (.str [63]))) sNext)
  (sSeq (sIf (tVal (cB dEq (cM "list" mCountS (cV 2) (cCons (cV 4) cNil)) (cK (.int 0)))) (sRet (cLst false (cCons (cV 4) cNil))) sNext)
  (sExpr (cM "list" mRemove (cV 2) (cCons (cV 4) cNil))))))
noncomputable def m__law_due : SM := (sSeq (sSet 2 (cF (dListA true) (cCons (cV 0) cNil)))
  (sSeq (sFor (.nm 3) (iVal (cV 1)) m__law_due_b0)
  (sRet (cM "str" mJoin (cK (.str [])) (cCons (cF (dSortA false) (cCons (cV 2) cNil)) cNil)))))
noncomputable def F__law_due : GF := bodyF 5 m__law_due
noncomputable def m__law_letters_b0 : SM := (sSet 2 (cB (dAdd false) (cV 2) (cB dIx (cV 1) (cB dMod (cB (dAdd false) (cB dDiv (cV 0) (cK (.int 24))) (cB (dMul false) (cV 3) (cB (dAdd false) (cK (.int 1)) (cB dMod (cB dDiv (cV 0) (cK (.int 624))) (cK (.int 8)))))) (cK (.int 26))))))
noncomputable def m__law_letters : SM := (sSeq (sSet 1 (cK (.str lowL)))
  (sSeq (sIf (tVal (cB dEq (cB dMod (cV 0) (cK (.int 8))) (cK (.int 5)))) (sRet (cV 1)) sNext)
  (sSeq (sSet 2 (cK (.str [])))
  (sSeq (sFor (.nm 3) (iRange1 (cCons (cB (dAdd false) (cK (.int 2)) (cB dMod (cB dDiv (cV 0) (cK (.int 8))) (cK (.int 3)))) cNil)) m__law_letters_b0)
  (sRet (cV 2))))))
noncomputable def F__law_letters : GF := bodyF 4 m__law_letters
noncomputable def m__law_rack_b0 : SM := (sIf (tAndD (tVal (cB dEq (cB dMod (cV 3) (cK (.int 4))) (cK (.int 0)))) (tVal (cB dLt (cM "str" mCount (cV 2) (cCons (cK (.str [63])) cNil)) (cK (.int 2))))) (sSet 2 (cB (dAdd false) (cV 2) (cK (.str [63])))) (sSet 2 (cB (dAdd false) (cV 2) (cB dIx (cV 1) (cB dMod (cB dDiv (cV 3) (cK (.int 4))) (cF dLen (cCons (cV 1) cNil)))))))
noncomputable def m__law_rack : SM := (sSeq (sSet 2 (cK (.str [])))
  (sSeq (sFor (.nm 3) (iVal (cSl false (cV 0) (oSome (cK (.int 3))) (oSome (cB (dAdd false) (cK (.int 3)) (cB dMod (cF (pureC F__law_cell_at) (cCons (cV 0) (cCons (cK (.int 2)) cNil))) (cK (.int 8))))))) m__law_rack_b0)
  (sRet (cV 2))))
noncomputable def F__law_rack : GF := bodyF 4 m__law_rack
noncomputable def m__law_stream_b0 : SM := (sSeq (sExpr (cM "list" mAppend (cV 2) (cCons (cB dMod (cV 3) (cB dPow (cK (.int 10)) (cK (.int 20)))) cNil)))
  (sSet 3 (cB dDiv (cV 3) (cB dPow (cK (.int 10)) (cK (.int 20))))))
noncomputable def m__law_stream_b1 : SM := (sSeq (sSet 3 (cB dMod (cB (dAdd false) (cB (dAdd false) (cB (dAdd false) (cB (dMul false) (cV 3) (cV 3)) (cB (dMul false) (cK (.int 48271)) (cV 3))) (cB (dMul false) (cK (.int 7)) (cV 4))) (cK (.int 3))) (cK (.int 2305843009213693951))))
  (sExpr (cM "list" mAppend (cV 2) (cCons (cB (dAdd false) (cB (dMul false) (cB dMod (cB (dMul false) (cV 3) (cK (.int 69621))) (cK (.int 2147483629))) (cK (.int 2147483647))) (cB dMod (cV 3) (cK (.int 2147483587)))) cNil))))
noncomputable def m__law_stream : SM := (sSeq (sSet 2 (cLst true cNil))
  (sSeq (sSet 3 (cB dDiv (cV 0) (cK (.int 2))))
  (sSeq (sIf (tVal (cB dEq (cB dMod (cV 0) (cK (.int 2))) (cK (.int 0)))) (sSeq (sFor (.nm 4) (iRange1 (cCons (cV 1) cNil)) m__law_stream_b0)
  (sRet (cV 2))) sNext)
  (sSeq (sSet 3 (cB dMod (cV 3) (cK (.int 2305843009213693951))))
  (sSeq (sFor (.nm 4) (iRange1 (cCons (cB (dAdd false) (cV 1) (cK (.int 1))) cNil)) m__law_stream_b1)
  (sRet (cSl false (cV 2) (oSome (cK (.int 1))) oNone)))))))
noncomputable def F__law_stream : GF := bodyF 5 m__law_stream
noncomputable def m__law_signs_b0 : SM := (sSeq (sSet 7 (cB dIx (cV 3) (cV 6)))
  (sSeq (sSet 8 (cB dIx (cV 2) (cB dMod (cB dDiv (cV 7) (cK (.int 8))) (cF dLen (cCons (cV 2) cNil)))))
  (sSeq (sIf (tVal (cB dEq (cB dMod (cV 7) (cK (.int 3))) (cK (.int 0)))) (sSet 8 (cM "str" mUpper (cV 8) cNil)) sNext)
  (sSeq (sIf (tAndD (tVal (cB dEq (cB dMod (cV 0) (cK (.int 2))) (cK (.int 1)))) (tVal (cB dNe (cV 4) (cLst false cNil)))) (sSeq (sSet 9 (cM "list" mPopAt (cV 4) (cCons (cB dMod (cB dDiv (cV 7) (cK (.int 64))) (cF dLen (cCons (cV 4) cNil))) cNil)))
  (sSet 8 (cB dIx (cLst false (cCons (cV 9) (cCons (cM "str" mUpper (cV 8) cNil) cNil))) (cF dInt (cCons (cB dEq (cV 9) (cK (.str [63]))) cNil))))) sNext)
  (sSet 5 (cB (dAdd false) (cV 5) (cV 8)))))))
noncomputable def m__law_signs : SM := (sSeq (sSet 3 (cF (pureC F__law_stream) (cCons (cV 0) (cCons (cK (.int 8)) cNil))))
  (sSeq (sSet 4 (cF (dListA true) (cCons (cV 1) cNil)))
  (sSeq (sSet 5 (cK (.str [])))
  (sSeq (sFor (.nm 6) (iRange1 (cCons (cB dMod (cB dIx (cV 3) (cK (.int 7))) (cK (.int 8))) cNil)) m__law_signs_b0)
  (sRet (cV 5))))))
noncomputable def F__law_signs : GF := bodyF 10 m__law_signs
noncomputable def m_tile_of : SM := (sSeq (sIf (tVal (cB dIn (cV 0) (cK (.str upL)))) (sRet (cK (.str [63]))) sNext)
  (sRet (cV 0)))
noncomputable def F_tile_of : GF := bodyF 1 m_tile_of
noncomputable def m_without_b0 : SM := (sSeq (sIf (tVal (cB dNotIn (cV 3) (cV 2))) (sRaiseI 4 (cCons (cV 3) cNil)) sNext)
  (sExpr (cM "list" mRemove (cV 2) (cCons (cV 3) cNil))))
noncomputable def m_without : SM := (sSeq (sSet 2 (cF (dSortA true) (cCons (cV 0) cNil)))
  (sSeq (sFor (.nm 3) (iVal (cV 1)) m_without_b0)
  (sRet (cM "str" mJoin (cK (.str [])) (cCons (cV 2) cNil)))))
noncomputable def F_without : GF := bodyF 4 m_without
noncomputable def m_left_of_e0 : M := (cF (pureC F_tile_of) (cCons (cV 2) cNil))
noncomputable def m_left_of : SM := (sRet (cF (pureY F_without) (cCons (cV 0) (cCons (cLc false (.nm 2) (iVal (cV 1)) tTrue m_left_of_e0 [2]) cNil))))
noncomputable def F_left_of : GF := bodyF 3 m_left_of
noncomputable def m__law_told : SM := (sSeq (sSet 2 (cK .non))
  (sSeq (sTryA (catOf [(4, true)]) 3 (sSet 2 (cF (pureY F_left_of) (cCons (cV 0) (cCons (cV 1) cNil)))) (sSeq (sSet 4 (cLst false (cCons (cU (dIsX (catOf [(4, false)]) (some false)) (cV 3)) (cCons (cU (dIsX (catOf [(4, false)]) (some false)) (cV 3)) (cCons (cU (dIsX (catOf [(4, false)]) (some false)) (cV 3)) (cCons (cU (dIsX (catOf [(4, false)]) (some false)) (cV 3)) cNil))))))
  (sIf (tAndD (tVal (cU (dIsX (catOf [(4, true)]) (some false)) (cV 3))) (tAndD (tVal (cU (dIsX (catOf [(4, true)]) none) (cV 3))) (tNotD (tVal (cF (dBools fun bs => bs.any id) (cCons (cB (dAdd false) (cV 4) (cLst false (cCons (cU (dIsX (catOf [(4, false)]) (some false)) (cV 3)) cNil))) cNil)))))) (sSet 2 (cLst false (cCons (cU (dXf [(4, 0)]) (cV 3)) cNil))) sNext)))
  (sRet (cV 2))))
noncomputable def F__law_told : GF := bodyF 5 m__law_told
noncomputable def m_law_b0 : SM := (sSeq (sSet 7 (cF (pureC F__law_told) (cCons (cV 6) (cCons (cV 4) cNil))))
  (sIf (tOrD (tVal (cB dNe (cU (dIsi "str") (cV 7)) (cU (dIsi "str") (cV 5)))) (tVal (cB dNe (cV 7) (cV 5)))) (sRet (cK (.bl false))) sNext))
noncomputable def m_law_b1 : SM := (sSeq (sSet 4 (cF (pureC F__law_signs) (cCons (cV 3) (cCons (cV 2) (cCons (cV 1) cNil)))))
  (sSeq (sSet 5 (cF (pureC F__law_due) (cCons (cV 2) (cCons (cV 4) cNil))))
  (sFor (.nm 6) (iVal (cLst false (cCons (cV 2) (cCons (cSlK (-1) (cV 2) oNone oNone) cNil)))) m_law_b0)))
noncomputable def m_law : SM := (sSeq (sSet 1 (cF (pureC F__law_letters) (cCons (cF (pureC F__law_cell_at) (cCons (cV 0) (cCons (cK (.int 0)) cNil))) cNil)))
  (sSeq (sSet 2 (cF (pureC F__law_rack) (cCons (cV 0) (cCons (cV 1) cNil))))
  (sSeq (sFor (.nm 3) (iVal (cB (dAdd false) (cLst false (cCons (cK (.int 0)) cNil)) (cSl false (cV 0) (oSome (cK (.int 10))) (oSome (cK (.int 60)))))) m_law_b1)
  (sRet (cB dEq (cF (pureC F__law_told) (cCons (cV 2) (cCons (cK (.str [])) cNil))) (cM "str" mJoin (cK (.str [])) (cCons (cF (dSortA false) (cCons (cV 2) cNil)) cNil)))))))
noncomputable def F_law : GF := bodyF 8 m_law
end
end T11
namespace T11
open PySem L2 Lr
noncomputable def top (i : Nat) : Stmt := PySem.Challenge.pw_letterrack_k11_what_is_left.main.body.getD i (.Pass ⟨0, 0, 0, 0⟩)
noncomputable def nm : Nm := ⟨fun c => [("RackError" : Str), ("NoWord" : Str), ("NoLaying" : Str), ("Gap" : Str), ("Lacking" : Str), ("TooFew" : Str), ("NoDeed" : Str)].getD c "", fun c => [([] : List Str), (["word"] : List Str), ([] : List Str), (["column", "row"] : List Str), (["tile"] : List Str), ([] : List Str), ([] : List Str)].getD c [], []⟩
structure Txt (T_BLANK T_GREAT : Tok) (K : PySem.W.Frag) (mg : Str → Option Value) (C_Gap C_Lacking C_NoDeed C_NoLaying C_NoWord C_RackError C_TooFew : Addr) : Prop where
  b_ValueError : mg "ValueError" = none
  b_any : mg "any" = none
  b_int : mg "int" = none
  b_isinstance : mg "isinstance" = none
  b_len : mg "len" = none
  b_list : mg "list" = none
  b_range : mg "range" = none
  b_sorted : mg "sorted" = none
  b_str : mg "str" = none
  c_BLANK : mg "BLANK" = some (.str "?" T_BLANK)
  c_GREAT : mg "GREAT" = some (.str "ABCDEFGHIJKLMNOPQRSTUVWXYZ" T_GREAT)
  m_Gap : mg "Gap" = some (.ref C_Gap)
  m_Lacking : mg "Lacking" = some (.ref C_Lacking)
  m_NoDeed : mg "NoDeed" = some (.ref C_NoDeed)
  m_NoLaying : mg "NoLaying" = some (.ref C_NoLaying)
  m_NoWord : mg "NoWord" = some (.ref C_NoWord)
  m_RackError : mg "RackError" = some (.ref C_RackError)
  m_TooFew : mg "TooFew" = some (.ref C_TooFew)
  rk : RkC K C_RackError
  b_Lacking_ValueError : PySem.W.kitOne K (.ref C_Lacking) (.type "ValueError") = some true
  e_Lacking_Lacking : PySem.W.exmOne K (.ref C_Lacking) (.ref C_Lacking) = some true
  f_Lacking_tile : PySem.W.findIn K (.ref C_Lacking) "tile" = some none
  k_Lacking_Gap : PySem.W.kitOne K (.ref C_Lacking) (.ref C_Gap) = some false
  k_Lacking_NoDeed : PySem.W.kitOne K (.ref C_Lacking) (.ref C_NoDeed) = some false
  k_Lacking_NoLaying : PySem.W.kitOne K (.ref C_Lacking) (.ref C_NoLaying) = some false
  k_Lacking_NoWord : PySem.W.kitOne K (.ref C_Lacking) (.ref C_NoWord) = some false
  k_Lacking_RackError : PySem.W.kitOne K (.ref C_Lacking) (.ref C_RackError) = some true
  k_Lacking_TooFew : PySem.W.kitOne K (.ref C_Lacking) (.ref C_TooFew) = some false
  n_Gap : PySem.W.kitOne K (.type "NoneType") (.ref C_Gap) = some false
  n_NoDeed : PySem.W.kitOne K (.type "NoneType") (.ref C_NoDeed) = some false
  n_NoLaying : PySem.W.kitOne K (.type "NoneType") (.ref C_NoLaying) = some false
  n_NoWord : PySem.W.kitOne K (.type "NoneType") (.ref C_NoWord) = some false
  n_RackError : PySem.W.kitOne K (.type "NoneType") (.ref C_RackError) = some false
  n_TooFew : PySem.W.kitOne K (.type "NoneType") (.ref C_TooFew) = some false
  x_Lacking : Xc K C_Lacking
  o_Lacking : OexC K C_Lacking
noncomputable abbrev s_X_Lacking : Stmt := inClass (top 5) 0
theorem sc_X_Lacking : FnScope ["self", "tile"] ["self", "tile"] (defScope s_X_Lacking) := ⟨rfl, rfl, rfl, by decide +kernel, rfl, by decide +kernel, by decide +kernel⟩
noncomputable abbrev s__law_cell_at : Stmt := top 15
theorem sc__law_cell_at : FnScope ["_law_script", "_law_k"] ["_law_script", "_law_k"] (defScope s__law_cell_at) := ⟨rfl, rfl, rfl, by decide +kernel, rfl, by decide +kernel, by decide +kernel⟩
noncomputable abbrev s__law_due : Stmt := top 20
theorem sc__law_due : FnScope ["_law_rack_here", "_law_signs_here", "_law_left", "_law_sign", "_law_tile"] ["_law_rack_here", "_law_signs_here"] (defScope s__law_due) := ⟨rfl, rfl, rfl, by decide +kernel, rfl, by decide +kernel, by decide +kernel⟩
noncomputable abbrev s__law_letters : Stmt := top 17
theorem sc__law_letters : FnScope ["_law_cell", "_law_letters_here", "_law_found", "_law_k"] ["_law_cell"] (defScope s__law_letters) := ⟨rfl, rfl, rfl, by decide +kernel, rfl, by decide +kernel, by decide +kernel⟩
noncomputable abbrev s__law_rack : Stmt := top 18
theorem sc__law_rack : FnScope ["_law_script", "_law_letters_here", "_law_rack_here", "_law_cell"] ["_law_script", "_law_letters_here"] (defScope s__law_rack) := ⟨rfl, rfl, rfl, by decide +kernel, rfl, by decide +kernel, by decide +kernel⟩
noncomputable abbrev s__law_stream : Stmt := top 16
theorem sc__law_stream : FnScope ["_law_cell", "_law_many", "_law_found", "_law_number", "_law_k"] ["_law_cell", "_law_many"] (defScope s__law_stream) := ⟨rfl, rfl, rfl, by decide +kernel, rfl, by decide +kernel, by decide +kernel⟩
noncomputable abbrev s__law_signs : Stmt := top 19
theorem sc__law_signs : FnScope ["_law_cell", "_law_rack_here", "_law_letters_here", "_law_numbers", "_law_order", "_law_signs_here", "_law_k", "_law_number", "_law_sign", "_law_tile"] ["_law_cell", "_law_rack_here", "_law_letters_here"] (defScope s__law_signs) := ⟨rfl, rfl, rfl, by decide +kernel, rfl, by decide +kernel, by decide +kernel⟩
noncomputable abbrev s_tile_of : Stmt := top 11
theorem sc_tile_of : FnScope ["sign"] ["sign"] (defScope s_tile_of) := ⟨rfl, rfl, rfl, by decide +kernel, rfl, by decide +kernel, by decide +kernel⟩
noncomputable abbrev s_without : Stmt := top 12
theorem sc_without : FnScope ["rack", "tiles", "left", "tile"] ["rack", "tiles"] (defScope s_without) := ⟨rfl, rfl, rfl, by decide +kernel, rfl, by decide +kernel, by decide +kernel⟩
noncomputable abbrev s_left_of : Stmt := top 13
theorem sc_left_of : FnScope ["rack", "signs", "sign"] ["rack", "signs"] (defScope s_left_of) := ⟨rfl, rfl, rfl, by decide +kernel, rfl, by decide +kernel, by decide +kernel⟩
noncomputable abbrev s__law_told : Stmt := top 21
theorem sc__law_told : FnScope ["_law_rack_here", "_law_signs_here", "_law_found", "e", "_law_some"] ["_law_rack_here", "_law_signs_here"] (defScope s__law_told) := ⟨rfl, rfl, rfl, by decide +kernel, rfl, by decide +kernel, by decide +kernel⟩
noncomputable abbrev s_law : Stmt := top 22
theorem sc_law : FnScope ["_law_script", "_law_letters_here", "_law_rack_here", "_law_cell", "_law_signs_here", "_law_due_here", "_law_one", "_law_found"] ["_law_script"] (defScope s_law) := ⟨rfl, rfl, rfl, by decide +kernel, rfl, by decide +kernel, by decide +kernel⟩
section
variable {P : Program} {w : World} {K : PySem.W.Frag} {mg : Str → Option Value} {base : Heap} {C_Gap C_Lacking C_NoDeed C_NoLaying C_NoWord C_RackError C_TooFew : Addr} {T_BLANK T_GREAT : Tok} (T : Txt T_BLANK T_GREAT K mg C_Gap C_Lacking C_NoDeed C_NoLaying C_NoWord C_RackError C_TooFew)
include T
theorem ok_X_Lacking (S : XInitSrc K C_Lacking "Lacking.__init__" s_X_Lacking) : RsI1 P w K mg base C_Lacking "tile" := rsI1_ok S sc_X_Lacking (fun _ _ _ _ _ _ us hl => match us, hl with | [_, _], _ => rfl) rfl (by first | exact Or.inl rfl | exact Or.inr (Or.inl rfl) | exact Or.inr (Or.inr rfl)) (by first | exact Or.inl rfl | exact Or.inr (Or.inl rfl) | exact Or.inr (Or.inr rfl)) (by decide) (by decide) (fun _ _ _ _ => rfl) (fun _ _ _ _ => ⟨_, rfl⟩) T.m_RackError T.rk T.o_Lacking T.f_Lacking_tile
theorem ok__law_cell_at (S : DefSrc K mg "_law_cell_at" s__law_cell_at)  : DefOk P w K mg base nm "_law_cell_at" 1 2 F__law_cell_at := def_ok S sc__law_cell_at (by decide) (fun _ _ _ _ _ _ us hl => match us, hl with | [_, _], _ => rfl) fun f cdv A outer s H E hr => by
  have hu := room_u hr
  have hu4 := room_u4 hr
  have sc := sc__law_cell_at
  unfold m__law_cell_at
  exact (bv_cons (sv_if (tv_cmp (opr_lt hu4) op2_lt (ev_var 1) (ev_cb callr_len opn_len T.b_len (av_cons (ev_var 0) av_nil))) (bv_one (sv_ret (ev_ix hu (ev_var 0) (ev_var 1)))) bv_nil)
  (bv_one (sv_ret ev_int)))
theorem ok__law_due (S : DefSrc K mg "_law_due" s__law_due)  : DefOk P w K mg base nm "_law_due" 1 2 F__law_due := def_ok S sc__law_due (by decide) (fun _ _ _ _ _ _ us hl => match us, hl with | [_, _], _ => rfl) fun f cdv A outer s H E hr => by
  have hu := room_u hr
  have hu4 := room_u4 hr
  have sc := sc__law_due
  unfold m__law_due m__law_due_b0
  exact (bv_cons (sv_set (i := 2) sc.nd (ev_ct (call_listA rfl) (opn_listA (fl := true)) T.b_list (av_cons (ev_var 0) av_nil)))
  (bv_cons (sv_for PassesOwn.never rfl (iv_val (ev_var 1)) (gv_name 3 sc.nd) (bv_cons (sv_set (i := 4) sc.nd (ev_var 3))
  (bv_cons (sv_if (tv_cmp (op_neD hu4) op2_ne (ev_bm0 PySem.F.plainAttrs_str PySem.F.slot_str_lower PySem.F.type_str_lower mt_lower opm_lower (ev_var 3)) (ev_var 3)) (bv_one (sv_set (i := 4) sc.nd (ev_str [63]))) bv_nil)
  (bv_cons (sv_if (tv_cmp (op_eqD hu4) op2_eq (ev_bm PySem.F.plainAttrs_list PySem.F.slot_list_count PySem.F.type_list_count mt_scount opm_countS (ev_var 2) (av_cons (ev_var 4) av_nil)) ev_int) (bv_one (sv_ret (ev_lst false (av_cons (ev_var 4) av_nil)))) bv_nil)
  (bv_one (sv_expr (ev_bm PySem.F.plainAttrs_list PySem.F.slot_list_remove PySem.F.type_list_remove mt_removeS opm_remove (ev_var 2) (av_cons (ev_var 4) av_nil))))))))
  (bv_one (sv_ret (ev_bm PySem.F.plainAttrs_str PySem.F.slot_str_join PySem.F.type_str_join mt_join opm_join (ev_str []) (av_cons (ev_cb (cr_sortA rfl hu4) (opn_sortA (fl := false)) T.b_sorted (av_cons (ev_var 2) av_nil)) av_nil))))))
theorem ok__law_letters (S : DefSrc K mg "_law_letters" s__law_letters)  : DefOk P w K mg base nm "_law_letters" 1 1 F__law_letters := def_ok S sc__law_letters (by decide) (fun _ _ _ _ _ _ us hl => match us, hl with | [_], _ => rfl) fun f cdv A outer s H E hr => by
  have hu := room_u hr
  have hu4 := room_u4 hr
  have sc := sc__law_letters
  unfold m__law_letters m__law_letters_b0
  exact (bv_cons (sv_set (i := 1) sc.nd (ev_str lowL))
  (bv_cons (sv_if (tv_cmp (op_eqD hu4) op2_eq (ev_bin op_mod op2_mod (ev_var 0) ev_int) ev_int) (bv_one (sv_ret (ev_var 1))) bv_nil)
  (bv_cons (sv_set (i := 2) sc.nd (ev_str []))
  (bv_cons (sv_for PassesOwn.never rfl (iv_range1 (av_cons (ev_bin opr_add (op2_add (fl := false)) ev_int (ev_bin op_mod op2_mod (ev_bin op_fdivW op2_div (ev_var 0) ev_int) ev_int)) av_nil) (by rfl) T.b_range) (gv_name 3 sc.nd) (bv_one (sv_set (i := 2) sc.nd (ev_bin opr_add (op2_add (fl := false)) (ev_var 2) (ev_ix hu (ev_var 1) (ev_bin op_mod op2_mod (ev_bin opr_add (op2_add (fl := false)) (ev_bin op_fdivW op2_div (ev_var 0) ev_int) (ev_bin opr_mul (op2_mul (fl := false)) (ev_var 3) (ev_bin opr_add (op2_add (fl := false)) ev_int (ev_bin op_mod op2_mod (ev_bin op_fdivW op2_div (ev_var 0) ev_int) ev_int)))) ev_int))))))
  (bv_one (sv_ret (ev_var 2)))))))
theorem ok__law_rack (S : DefSrc K mg "_law_rack" s__law_rack) (h__law_cell_at : DefOk P w K mg base nm "_law_cell_at" 1 2 F__law_cell_at) : DefOk P w K mg base nm "_law_rack" 2 2 F__law_rack := def_ok S sc__law_rack (by decide) (fun _ _ _ _ _ _ us hl => match us, hl with | [_, _], _ => rfl) fun f cdv A outer s H E hr => by
  have hu := room_u hr
  have hu4 := room_u4 hr
  have sc := sc__law_rack
  unfold m__law_rack m__law_rack_b0
  exact (bv_cons (sv_set (i := 2) sc.nd (ev_str []))
  (bv_cons (sv_for PassesOwn.never rfl (iv_val (ev_sl false (ev_var 0) (ov_some ev_int) (ov_some (ev_bin opr_add (op2_add (fl := false)) ev_int (ev_bin op_mod op2_mod (ev_callF h__law_cell_at hr (av_cons (ev_var 0) (av_cons ev_int av_nil))) ev_int))))) (gv_name 3 sc.nd) (bv_one (sv_if (tv_w (wv_and (tv_cmp (op_eqD hu4) op2_eq (ev_bin op_mod op2_mod (ev_var 3) ev_int) ev_int) (wv_and1 (tv_cmp (opr_lt hu4) op2_lt (ev_bm PySem.F.plainAttrs_str PySem.F.slot_str_count PySem.F.type_str_count mt_count opm_count (ev_var 2) (av_cons (ev_str [63]) av_nil)) ev_int)))) (bv_one (sv_set (i := 2) sc.nd (ev_bin opr_add (op2_add (fl := false)) (ev_var 2) (ev_str [63])))) (bv_one (sv_set (i := 2) sc.nd (ev_bin opr_add (op2_add (fl := false)) (ev_var 2) (ev_ix hu (ev_var 1) (ev_bin op_mod op2_mod (ev_bin op_fdivW op2_div (ev_var 3) ev_int) (ev_cb callr_len opn_len T.b_len (av_cons (ev_var 1) av_nil))))))))))
  (bv_one (sv_ret (ev_var 2)))))
theorem ok__law_stream (S : DefSrc K mg "_law_stream" s__law_stream)  : DefOk P w K mg base nm "_law_stream" 1 2 F__law_stream := def_ok S sc__law_stream (by decide) (fun _ _ _ _ _ _ us hl => match us, hl with | [_, _], _ => rfl) fun f cdv A outer s H E hr => by
  have hu := room_u hr
  have hu4 := room_u4 hr
  have sc := sc__law_stream
  unfold m__law_stream m__law_stream_b1 m__law_stream_b0
  exact (bv_cons (sv_set (i := 2) sc.nd (ev_lst true av_nil))
  (bv_cons (sv_set (i := 3) sc.nd (ev_bin op_fdivW op2_div (ev_var 0) ev_int))
  (bv_cons (sv_if (tv_cmp (op_eqD hu4) op2_eq (ev_bin op_mod op2_mod (ev_var 0) ev_int) ev_int) (bv_cons (sv_for PassesOwn.never rfl (iv_range1 (av_cons (ev_var 1) av_nil) (by rfl) T.b_range) (gv_name 4 sc.nd) (bv_cons (sv_expr (ev_bm PySem.F.plainAttrs_list PySem.F.slot_list_append PySem.F.type_list_append mt_append opm_append (ev_var 2) (av_cons (ev_bin op_mod op2_mod (ev_var 3) (ev_bin op_pow op2_pow ev_int ev_int)) av_nil)))
  (bv_one (sv_set (i := 3) sc.nd (ev_bin op_fdivW op2_div (ev_var 3) (ev_bin op_pow op2_pow ev_int ev_int))))))
  (bv_one (sv_ret (ev_var 2)))) bv_nil)
  (bv_cons (sv_set (i := 3) sc.nd (ev_bin op_mod op2_mod (ev_var 3) ev_int))
  (bv_cons (sv_for PassesOwn.never rfl (iv_range1 (av_cons (ev_bin opr_add (op2_add (fl := false)) (ev_var 1) ev_int) av_nil) (by rfl) T.b_range) (gv_name 4 sc.nd) (bv_cons (sv_set (i := 3) sc.nd (ev_bin op_mod op2_mod (ev_bin opr_add (op2_add (fl := false)) (ev_bin opr_add (op2_add (fl := false)) (ev_bin opr_add (op2_add (fl := false)) (ev_bin opr_mul (op2_mul (fl := false)) (ev_var 3) (ev_var 3)) (ev_bin opr_mul (op2_mul (fl := false)) ev_int (ev_var 3))) (ev_bin opr_mul (op2_mul (fl := false)) ev_int (ev_var 4))) ev_int) ev_int))
  (bv_one (sv_expr (ev_bm PySem.F.plainAttrs_list PySem.F.slot_list_append PySem.F.type_list_append mt_append opm_append (ev_var 2) (av_cons (ev_bin opr_add (op2_add (fl := false)) (ev_bin opr_mul (op2_mul (fl := false)) (ev_bin op_mod op2_mod (ev_bin opr_mul (op2_mul (fl := false)) (ev_var 3) ev_int) ev_int) ev_int) (ev_bin op_mod op2_mod (ev_var 3) ev_int)) av_nil))))))
  (bv_one (sv_ret (ev_sl false (ev_var 2) (ov_some ev_int) ov_none))))))))
theorem ok__law_signs (S : DefSrc K mg "_law_signs" s__law_signs) (h__law_stream : DefOk P w K mg base nm "_law_stream" 1 2 F__law_stream) : DefOk P w K mg base nm "_law_signs" 2 3 F__law_signs := def_ok S sc__law_signs (by decide) (fun _ _ _ _ _ _ us hl => match us, hl with | [_, _, _], _ => rfl) fun f cdv A outer s H E hr => by
  have hu := room_u hr
  have hu4 := room_u4 hr
  have sc := sc__law_signs
  unfold m__law_signs m__law_signs_b0
  exact (bv_cons (sv_set (i := 3) sc.nd (ev_callF h__law_stream hr (av_cons (ev_var 0) (av_cons ev_int av_nil))))
  (bv_cons (sv_set (i := 4) sc.nd (ev_ct (call_listA rfl) (opn_listA (fl := true)) T.b_list (av_cons (ev_var 1) av_nil)))
  (bv_cons (sv_set (i := 5) sc.nd (ev_str []))
  (bv_cons (sv_for PassesOwn.never rfl (iv_range1 (av_cons (ev_bin op_mod op2_mod (ev_ix hu (ev_var 3) ev_int) ev_int) av_nil) (by rfl) T.b_range) (gv_name 6 sc.nd) (bv_cons (sv_set (i := 7) sc.nd (ev_ix hu (ev_var 3) (ev_var 6)))
  (bv_cons (sv_set (i := 8) sc.nd (ev_ix hu (ev_var 2) (ev_bin op_mod op2_mod (ev_bin op_fdivW op2_div (ev_var 7) ev_int) (ev_cb callr_len opn_len T.b_len (av_cons (ev_var 2) av_nil)))))
  (bv_cons (sv_if (tv_cmp (op_eqD hu4) op2_eq (ev_bin op_mod op2_mod (ev_var 7) ev_int) ev_int) (bv_one (sv_set (i := 8) sc.nd (ev_bm0 PySem.F.plainAttrs_str PySem.F.slot_str_upper PySem.F.type_str_upper mt_upper opm_upper (ev_var 8)))) bv_nil)
  (bv_cons (sv_if (tv_w (wv_and (tv_cmp (op_eqD hu4) op2_eq (ev_bin op_mod op2_mod (ev_var 0) ev_int) ev_int) (wv_and1 (tv_cmp (op_neD hu4) op2_ne (ev_var 4) (ev_lst false av_nil))))) (bv_cons (sv_set (i := 9) sc.nd (ev_bm PySem.F.plainAttrs_list PySem.F.slot_list_pop PySem.F.type_list_pop mt_popAt opm_popAt (ev_var 4) (av_cons (ev_bin op_mod op2_mod (ev_bin op_fdivW op2_div (ev_var 7) ev_int) (ev_cb callr_len opn_len T.b_len (av_cons (ev_var 4) av_nil))) av_nil)))
  (bv_one (sv_set (i := 8) sc.nd (ev_ix hu (ev_lst false (av_cons (ev_var 9) (av_cons (ev_bm0 PySem.F.plainAttrs_str PySem.F.slot_str_upper PySem.F.type_str_upper mt_upper opm_upper (ev_var 8)) av_nil))) (ev_ct call_int1 opn_int T.b_int (av_cons (ev_cmp (op_eqD hu4) op2_eq (ev_var 9) (ev_str [63])) av_nil)))))) bv_nil)
  (bv_one (sv_set (i := 5) sc.nd (ev_bin opr_add (op2_add (fl := false)) (ev_var 5) (ev_var 8)))))))))
  (bv_one (sv_ret (ev_var 5)))))))
theorem ok_tile_of (S : DefSrc K mg "tile_of" s_tile_of)  : DefOk P w K mg base nm "tile_of" 1 1 F_tile_of := def_ok S sc_tile_of (by decide) (fun _ _ _ _ _ _ us hl => match us, hl with | [_], _ => rfl) fun f cdv A outer s H E hr => by
  have hu := room_u hr
  have hu4 := room_u4 hr
  have sc := sc_tile_of
  unfold m_tile_of
  exact (bv_cons (sv_if (tv_cmp (opr_in hu) op2_in (ev_var 0) (ev_globS upL T.c_GREAT)) (bv_one (sv_ret (ev_globS [63] T.c_BLANK))) bv_nil)
  (bv_one (sv_ret (ev_var 0))))
theorem ok_without (S : DefSrc K mg "without" s_without) (h_X_Lacking : RsI1 P w K mg base C_Lacking "tile") : DefOkX P w K mg base nm "without" 3 2 F_without := def_okX S sc_without (by decide) (fun _ _ _ _ _ _ us hl => match us, hl with | [_, _], _ => rfl) fun f cdv A outer s H E hr => by
  have hu := room_u hr
  have hu4 := room_u4 hr
  have sc := sc_without
  unfold m_without m_without_b0
  exact (bv_cons (sv_set (i := 2) sc.nd (ev_cb (cr_sortA rfl hu4) (opn_sortA (fl := true)) T.b_sorted (av_cons (ev_var 0) av_nil)))
  (bv_cons (sv_for passes_cx rfl (iv_val (ev_var 1)) (gv_name 3 sc.nd) (bv_cons (sv_if (tv_cmp (opr_notIn hu) op2_notIn (ev_var 3) (ev_var 2)) (bv_one (sv_raiseJ1 rfl takes_cx h_X_Lacking hr T.m_Lacking (av_cons (ev_var 3) av_nil))) bv_nil)
  (bv_one (sv_expr (ev_bm PySem.F.plainAttrs_list PySem.F.slot_list_remove PySem.F.type_list_remove mt_removeS opm_remove (ev_var 2) (av_cons (ev_var 3) av_nil))))))
  (bv_one (sv_ret (ev_bm PySem.F.plainAttrs_str PySem.F.slot_str_join PySem.F.type_str_join mt_join opm_join (ev_str []) (av_cons (ev_var 2) av_nil))))))
theorem ok_left_of (S : DefSrc K mg "left_of" s_left_of) (h_tile_of : DefOk P w K mg base nm "tile_of" 1 1 F_tile_of) (h_without : DefOkX P w K mg base nm "without" 3 2 F_without) : DefOkX P w K mg base nm "left_of" 4 2 F_left_of := def_okX S sc_left_of (by decide) (fun _ _ _ _ _ _ us hl => match us, hl with | [_, _], _ => rfl) fun f cdv A outer s H E hr => by
  have hu := room_u hr
  have hu4 := room_u4 hr
  have sc := sc_left_of
  unfold m_left_of m_left_of_e0
  exact (bv_one (sv_ret (ev_callY h_without callOkX_pureY takes_cx hr (av_cons (ev_var 0) (av_cons (ev_lc false rfl sc.nd (iv_val (ev_var 1)) [("sign", 2)] (by first | (change blkC ["rack", "signs", "sign"] (defScope s_left_of) _ _ = true; decide +kernel) | kernel_rfl) (by decide) (fun _ _ _ _ _ => (gv_name 2 sc.nd)) (fun _ _ _ _ _ => (ev_callF h_tile_of hr (av_cons (ev_var 2) av_nil)))) av_nil)))))
theorem ok__law_told (S : DefSrc K mg "_law_told" s__law_told) (h_left_of : DefOkX P w K mg base nm "left_of" 4 2 F_left_of) : DefOk P w K mg base nm "_law_told" 5 2 F__law_told := def_ok S sc__law_told (by decide) (fun _ _ _ _ _ _ us hl => match us, hl with | [_, _], _ => rfl) fun f cdv A outer s H E hr => by
  have hu := room_u hr
  have hu4 := room_u4 hr
  have sc := sc__law_told
  unfold m__law_told
  exact (bv_cons (sv_set (i := 2) sc.nd ev_non)
  (bv_cons (sv_tryH rfl rfl rfl sc.nd (i := 3) rfl rfl (names_own T.m_Lacking) takesN0 (cat_cons T.m_Lacking T.e_Lacking_Lacking cat_nil) (fun W pn xe tk hp => (bv_one (sv_set (i := 2) sc.nd (ev_callY h_left_of callOkX_pureY tk hr (av_cons (ev_var 0) (av_cons (ev_var 1) av_nil)))))) (fun a pn => (bv_cons (sv_set (i := 4) sc.nd (ev_lst false (av_cons (ev_isX T.b_isinstance T.m_Gap (xok_cons T.m_Lacking T.x_Lacking T.k_Lacking_Gap xok_nil) (fun b h => by cases h; exact T.n_Gap) (ev_var 3)) (av_cons (ev_isX T.b_isinstance T.m_NoDeed (xok_cons T.m_Lacking T.x_Lacking T.k_Lacking_NoDeed xok_nil) (fun b h => by cases h; exact T.n_NoDeed) (ev_var 3)) (av_cons (ev_isX T.b_isinstance T.m_NoLaying (xok_cons T.m_Lacking T.x_Lacking T.k_Lacking_NoLaying xok_nil) (fun b h => by cases h; exact T.n_NoLaying) (ev_var 3)) (av_cons (ev_isX T.b_isinstance T.m_NoWord (xok_cons T.m_Lacking T.x_Lacking T.k_Lacking_NoWord xok_nil) (fun b h => by cases h; exact T.n_NoWord) (ev_var 3)) av_nil))))))
  (bv_one (sv_if (tv_w (wv_and (tv_val (ev_isX T.b_isinstance T.m_RackError (xok_cons T.m_Lacking T.x_Lacking T.k_Lacking_RackError xok_nil) (fun b h => by cases h; exact T.n_RackError) (ev_var 3))) (wv_and (tv_val (ev_isXB T.b_isinstance T.b_ValueError (xok_cons T.m_Lacking T.x_Lacking T.b_Lacking_ValueError xok_nil) (ev_var 3))) (wv_and1 (tv_not (tv_val (ev_cb cr_anyH (opn_anyH rfl) T.b_any (av_cons (ev_bin opr_add (op2_add (fl := false)) (ev_var 4) (ev_lst false (av_cons (ev_isX T.b_isinstance T.m_TooFew (xok_cons T.m_Lacking T.x_Lacking T.k_Lacking_TooFew xok_nil) (fun b h => by cases h; exact T.n_TooFew) (ev_var 3)) av_nil))) av_nil)))))))) (bv_one (sv_set (i := 2) sc.nd (ev_lst false (av_cons (ev_xf (id (α := XfOk nm _ _ _ _) (xfok_cons T.m_Lacking T.x_Lacking T.f_Lacking_tile xfok_nil)) (ev_var 3)) av_nil)))) bv_nil)))))
  (bv_one (sv_ret (ev_var 2)))))
theorem bd_law (h__law_cell_at : DefOk P w K mg base nm "_law_cell_at" 1 2 F__law_cell_at) (h__law_due : DefOk P w K mg base nm "_law_due" 1 2 F__law_due) (h__law_letters : DefOk P w K mg base nm "_law_letters" 1 1 F__law_letters) (h__law_rack : DefOk P w K mg base nm "_law_rack" 2 2 F__law_rack) (h__law_signs : DefOk P w K mg base nm "_law_signs" 2 3 F__law_signs) (h__law_told : DefOk P w K mg base nm "_law_told" 5 2 F__law_told) : Bd P w K mg base nm ["_law_script", "_law_letters_here", "_law_rack_here", "_law_cell", "_law_signs_here", "_law_due_here", "_law_one", "_law_found"] "law" s_law 5 m_law := fun f cdv A outer s H E hr => by
  have hu := room_u hr
  have hu4 := room_u4 hr
  have sc := sc_law
  unfold m_law m_law_b1 m_law_b0
  exact (bv_cons (sv_set (i := 1) sc.nd (ev_callF h__law_letters hr (av_cons (ev_callF h__law_cell_at hr (av_cons (ev_var 0) (av_cons ev_int av_nil))) av_nil)))
  (bv_cons (sv_set (i := 2) sc.nd (ev_callF h__law_rack hr (av_cons (ev_var 0) (av_cons (ev_var 1) av_nil))))
  (bv_cons (sv_for PassesOwn.never rfl (iv_val (ev_bin opr_add (op2_add (fl := false)) (ev_lst false (av_cons ev_int av_nil)) (ev_sl false (ev_var 0) (ov_some ev_int) (ov_some ev_int)))) (gv_name 3 sc.nd) (bv_cons (sv_set (i := 4) sc.nd (ev_callF h__law_signs hr (av_cons (ev_var 3) (av_cons (ev_var 2) (av_cons (ev_var 1) av_nil)))))
  (bv_cons (sv_set (i := 5) sc.nd (ev_callF h__law_due hr (av_cons (ev_var 2) (av_cons (ev_var 4) av_nil))))
  (bv_one (sv_for PassesOwn.never rfl (iv_val (ev_lst false (av_cons (ev_var 2) (av_cons (ev_slR (ev_var 2) ov_none ov_none) av_nil)))) (gv_name 6 sc.nd) (bv_cons (sv_set (i := 7) sc.nd (ev_callF h__law_told hr (av_cons (ev_var 6) (av_cons (ev_var 4) av_nil))))
  (bv_one (sv_if (tv_w (wv_or (tv_cmp (op_neD hu4) op2_ne (ev_isi T.b_isinstance T.b_str (ev_var 7)) (ev_isi T.b_isinstance T.b_str (ev_var 5))) (wv_or1 (tv_cmp (op_neD hu4) op2_ne (ev_var 7) (ev_var 5))))) (bv_one (sv_ret ev_bl)) bv_nil))))))))
  (bv_one (sv_ret (ev_cmp (op_eqD hu4) op2_eq (ev_callF h__law_told hr (av_cons (ev_var 2) (av_cons (ev_str []) av_nil))) (ev_bm PySem.F.plainAttrs_str PySem.F.slot_str_join PySem.F.type_str_join mt_join opm_join (ev_str []) (av_cons (ev_cb (cr_sortA rfl hu4) (opn_sortA (fl := false)) T.b_sorted (av_cons (ev_var 2) av_nil)) av_nil))))))))
end
section
variable {P : Program} {w : World} {K : PySem.W.Frag} {mg : Str → Option Value} {C_Gap C_Lacking C_NoDeed C_NoLaying C_NoWord C_RackError C_TooFew : Addr} {T_BLANK T_GREAT : Tok}
theorem ok_all (T : Txt T_BLANK T_GREAT K mg C_Gap C_Lacking C_NoDeed C_NoLaying C_NoWord C_RackError C_TooFew) (S_X_Lacking : XInitSrc K C_Lacking "Lacking.__init__" s_X_Lacking) (S__law_cell_at : DefSrc K mg "_law_cell_at" s__law_cell_at) (S__law_due : DefSrc K mg "_law_due" s__law_due) (S__law_letters : DefSrc K mg "_law_letters" s__law_letters) (S__law_rack : DefSrc K mg "_law_rack" s__law_rack) (S__law_stream : DefSrc K mg "_law_stream" s__law_stream) (S__law_signs : DefSrc K mg "_law_signs" s__law_signs) (S_tile_of : DefSrc K mg "tile_of" s_tile_of) (S_without : DefSrc K mg "without" s_without) (S_left_of : DefSrc K mg "left_of" s_left_of) (S__law_told : DefSrc K mg "_law_told" s__law_told) (S_law : DefSrc K mg "law" s_law) : ∃ (fa : Addr) (fd : FuncData) (y : Str), mg "law" = some (.ref fa) ∧ (∀ (s : Shared) (u : Value), BindsTo s fd ⟨[u], []⟩ [(y, u)]) ∧ y = "_law_script" ∧ ∀ base : Heap, K.In base → base.Ns mainGlobals mg → FnOk P w K mg base CX0 6 fa fd [y] (spG0 ⟨K, mg, nm, w⟩ 1 F_law) :=
  law_end S_law sc_law (by decide) (fun _ _ _ _ _ _ us hl => match us, hl with | [_], _ => rfl) fun base h1 h2 => by
    have h_X_Lacking : RsI1 P w K mg base C_Lacking "tile" := ok_X_Lacking T S_X_Lacking
    have h__law_cell_at : DefOk P w K mg base nm "_law_cell_at" 1 2 F__law_cell_at := ok__law_cell_at T S__law_cell_at 
    have h__law_due : DefOk P w K mg base nm "_law_due" 1 2 F__law_due := ok__law_due T S__law_due 
    have h__law_letters : DefOk P w K mg base nm "_law_letters" 1 1 F__law_letters := ok__law_letters T S__law_letters 
    have h__law_rack : DefOk P w K mg base nm "_law_rack" 2 2 F__law_rack := ok__law_rack T S__law_rack h__law_cell_at
    have h__law_stream : DefOk P w K mg base nm "_law_stream" 1 2 F__law_stream := ok__law_stream T S__law_stream 
    have h__law_signs : DefOk P w K mg base nm "_law_signs" 2 3 F__law_signs := ok__law_signs T S__law_signs h__law_stream
    have h_tile_of : DefOk P w K mg base nm "tile_of" 1 1 F_tile_of := ok_tile_of T S_tile_of 
    have h_without : DefOkX P w K mg base nm "without" 3 2 F_without := ok_without T S_without h_X_Lacking
    have h_left_of : DefOkX P w K mg base nm "left_of" 4 2 F_left_of := ok_left_of T S_left_of h_tile_of h_without
    have h__law_told : DefOk P w K mg base nm "_law_told" 5 2 F__law_told := ok__law_told T S__law_told h_left_of
    exact bd_law T h__law_cell_at h__law_due h__law_letters h__law_rack h__law_signs h__law_told
end
end T11
namespace T11
open PySem L2 Lr
noncomputable def t__law_cell_at (a_script : (List Int)) (a_k : Int) : R Int := R.fin (N := Unit) (L := Unit) (ρ := Int)
    (if (decide (a_k < ((a_script.length : Nat) : Int))) then (R.bind (atR a_script a_k) fun x1 => R.ok (.rt x1))
    else (R.ok (.rt (0 : Int))))
theorem tf__law_cell_at : TF true false (fun a : ((List Int) × (Int × Unit)) => [kScr a.1, D.int a.2.1]) D.int F__law_cell_at (fun a => t__law_cell_at a.1 a.2.1) := by
  unfold F__law_cell_at m__law_cell_at 
  refine tf_mk4 (n := 2) (fs := [fun a : ((List Int) × (Int × Unit)) => kScr a.1, fun a : ((List Int) × (Int × Unit)) => D.int a.2.1]) (r := 0) (Qn := fun _ (_ : Unit) _ _ => True) (Ql := fun _ (_ : Unit) _ _ => True) (Qx := fun _ _ _ => True) ?hk ?h
  case hk => exact fun _ => rfl
  case h => exact ⟨_, (tb_ifR0 (tt_val (k := D.bl) (td_bin (te_td (td_var (k := D.int) (f := fun s : ((List Int) × (Int × Unit)) => s.2.1) 1 rfl)) (te_td (td_fn (ta_cons (te_td (td_var (k := kScr) (f := fun s : ((List Int) × (Int × Unit)) => s.1) 0 rfl)) ta_nil) (o_lenC))) (o_lt))) nn_ret
    (tb_retD (td_bin (te_td (td_var (k := kScr) (f := fun s : ((List Int) × (Int × Unit)) => s.1) 0 rfl)) (te_td (td_var (k := D.int) (f := fun s : ((List Int) × (Int × Unit)) => s.2.1) 1 rfl)) o_ixC) qr_f (fun _ _ _ _ _ => trivial))
    (tb_retD (td_k (k := D.int) (0 : Int)) qr_f (fun _ _ _ _ _ => trivial)) (fun _ _ _ _ _ => trivial)), fun a => by simp only [t__law_cell_at, R.bind_ok]⟩
noncomputable def t__law_letters (a_cell : Int) : R (List Nat) := R.fin (N := Unit) (L := Unit) (ρ := (List Nat))
    (R.bind (R.ok (lowL : List Nat)) fun letters_here_2 =>
    (if (decide ((a_cell % (8 : Int)) = (5 : Int))) then (R.ok (.rt letters_here_2))
    else (R.bind (R.ok ([] : List Nat)) fun found_3 =>
    (R.bind (rg1 ((2 : Int) + ((a_cell / (8 : Int)) % (3 : Int)))) fun xs17 => R.seq (ρ := (List Nat)) (forR (ρ := (List Nat)) xs17 found_3 fun (found_5 : ((List Nat))) (k_6 : Int) =>
    (R.bind ((R.bind (R.bind (R.bind (R.bind (imulR k_6 ((1 : Int) + ((a_cell / (624 : Int)) % (8 : Int)))) fun x7 => R.ok ((a_cell / (24 : Int)) + x7)) fun x9 => R.ok (x9 % (26 : Int))) fun x11 => (R.bind (atR letters_here_2 x11) fun c => R.ok [c])) fun x13 => (addR found_5 x13))) fun found_15 =>
    (R.ok (.nx found_15)))) fun l16 =>
    (R.ok (.rt l16))))))
theorem tf__law_letters : TF true false (fun a : (Int × Unit) => [D.int a.1]) D.str F__law_letters (fun a => t__law_letters a.1) := by
  unfold F__law_letters m__law_letters m__law_letters_b0
  refine tf_mk4 (n := 4) (fs := [fun a : (Int × Unit) => D.int a.1]) (r := 3) (Qn := fun _ (_ : Unit) _ _ => True) (Ql := fun _ (_ : Unit) _ _ => True) (Qx := fun _ _ _ => True) ?hk ?h
  case hk => exact fun _ => rfl
  case h => exact ⟨_, (tb_set (k := D.str) 1 (td_k (k := D.str) (lowL : List Nat))
    (tb_ifR0 (tt_val (k := D.bl) (td_bin (te_td (td_modK (c := 8) (td_var (k := D.int) (f := fun s : ((Int × Unit) × (List Nat)) => s.1.1) 0 rfl))) (te_td (td_k (k := D.int) (5 : Int))) (o_eq (k := D.int)))) nn_ret
    (tb_retD (td_var (k := D.str) (f := fun s : ((Int × Unit) × (List Nat)) => s.2) 1 rfl) qr_f (fun _ _ _ _ _ => trivial))
    (tb_set (k := D.str) 2 (td_k (k := D.str) ([] : List Nat))
    (tb_for (L' := ((List Nat))) (δ := [.val (fun t : ((((Int × Unit) × (List Nat)) × (List Nat)) × ((List Nat))) => D.int t.1.1.1.1), .val (fun t : ((((Int × Unit) × (List Nat)) × (List Nat)) × ((List Nat))) => D.str t.1.1.2), .val (fun t : ((((Int × Unit) × (List Nat)) × (List Nat)) × ((List Nat))) => D.str t.2), .un]) (kx := D.int) (ws := [(3, fun v : Int => D.int v)]) (fun s : (((Int × Unit) × (List Nat)) × (List Nat)) => s.2) (ti_range1 (td_bin (te_td (td_k (k := D.int) (2 : Int))) (te_td (td_modK (c := 3) (td_divK (c := 8) (td_var (k := D.int) (f := fun s : (((Int × Unit) × (List Nat)) × (List Nat)) => s.1.1.1) 0 rfl)))) o_add)) (fun _ _ => rfl) (by exact ⟨(fun _ => rfl), ⟨(fun _ => rfl), ⟨(fun _ => rfl), ⟨trivial, trivial⟩⟩⟩⟩)
    (tb_last (tb_set (k := D.str) 2 (td_bin (te_td (td_var (k := D.str) (f := fun s : (((((Int × Unit) × (List Nat)) × (List Nat)) × ((List Nat))) × Int) => s.1.2) 2 rfl)) (te_td (td_bin (te_td (td_var (k := D.str) (f := fun s : (((((Int × Unit) × (List Nat)) × (List Nat)) × ((List Nat))) × Int) => s.1.1.1.2) 1 rfl)) (te_td (td_modK (c := 26) (td_bin (te_td (td_divK (c := 24) (td_var (k := D.int) (f := fun s : (((((Int × Unit) × (List Nat)) × (List Nat)) × ((List Nat))) × Int) => s.1.1.1.1.1) 0 rfl))) (te_td (td_bin (te_td (td_var (k := D.int) (f := fun s : (((((Int × Unit) × (List Nat)) × (List Nat)) × ((List Nat))) × Int) => s.2) 3 rfl)) (te_td (td_bin (te_td (td_k (k := D.int) (1 : Int))) (te_td (td_modK (c := 8) (td_divK (c := 624) (td_var (k := D.int) (f := fun s : (((((Int × Unit) × (List Nat)) × (List Nat)) × ((List Nat))) × Int) => s.1.1.1.1.1) 0 rfl)))) o_add)) o_mul)) o_add))) o_ixS)) o_addS)
    (tb_end (fun s : ((((((Int × Unit) × (List Nat)) × (List Nat)) × ((List Nat))) × Int) × (List Nat)) => s.2) (fun s e μ E => Enc.wk (p := fun s : ((((((Int × Unit) × (List Nat)) × (List Nat)) × ((List Nat))) × Int) × (List Nat)) => (s.1.1.1, s.2)) (by exact ⟨(fun _ => rfl), ⟨(fun _ => rfl), ⟨(fun _ => rfl), ⟨trivial, trivial⟩⟩⟩⟩) E)) (fun _ _ _ _ _ => trivial)))
    (tb_retD (td_var (k := D.str) (f := fun s : ((((Int × Unit) × (List Nat)) × (List Nat)) × ((List Nat))) => s.2) 2 rfl) qr_f (fun _ _ _ _ _ => trivial)) (fun _ _ _ _ _ => trivial)) (fun _ _ _ _ _ => trivial)) (fun _ _ _ _ _ => trivial)) (fun _ _ _ _ _ => trivial)), fun a => by simp only [t__law_letters, R.bind_ok]⟩
noncomputable def t__law_rack (a_script : (List Int)) (a_letters_here : (List Nat)) : R (List Nat) := R.fin (N := Unit) (L := Unit) (ρ := (List Nat))
    (R.bind (R.ok ([] : List Nat)) fun rack_here_18 =>
    (R.bind (R.bind (R.bind (R.bind (R.bind (t__law_cell_at a_script (2 : Int)) fun x19 => R.ok (x19 % (8 : Int))) fun x21 => R.ok ((3 : Int) + x21)) fun x23 => R.ok (some x23)) fun x25 => R.ok (cutL a_script (some (3 : Int)) x25)) fun xs37 => R.seq (ρ := (List Nat)) (forR (ρ := (List Nat)) xs37 rack_here_18 fun (rack_here_28 : ((List Nat))) (cell_29 : Int) =>
    (if ((decide ((cell_29 % (4 : Int)) = (0 : Int))) && (decide ((Txt.count (S rack_here_28) (S ([63] : List Nat))) < (2 : Int)))) then (R.bind ((addR rack_here_28 ([63] : List Nat))) fun rack_here_30 =>
    (R.ok (.nx rack_here_30)))
    else (R.bind ((R.bind (R.bind (imodR (cell_29 / (4 : Int)) ((a_letters_here.length : Nat) : Int)) fun x31 => (R.bind (atR a_letters_here x31) fun c => R.ok [c])) fun x33 => (addR rack_here_28 x33))) fun rack_here_35 =>
    (R.ok (.nx rack_here_35))))) fun l36 =>
    (R.ok (.rt l36))))
theorem tf__law_rack : TF true false (fun a : ((List Int) × ((List Nat) × Unit)) => [kScr a.1, D.str a.2.1]) D.str F__law_rack (fun a => t__law_rack a.1 a.2.1) := by
  unfold F__law_rack m__law_rack m__law_rack_b0
  refine tf_mk4 (n := 4) (fs := [fun a : ((List Int) × ((List Nat) × Unit)) => kScr a.1, fun a : ((List Int) × ((List Nat) × Unit)) => D.str a.2.1]) (r := 2) (Qn := fun _ (_ : Unit) _ _ => True) (Ql := fun _ (_ : Unit) _ _ => True) (Qx := fun _ _ _ => True) ?hk ?h
  case hk => exact fun _ => rfl
  case h => exact ⟨_, (tb_set (k := D.str) 2 (td_k (k := D.str) ([] : List Nat))
    (tb_for (L' := ((List Nat))) (δ := [.val (fun t : ((((List Int) × ((List Nat) × Unit)) × (List Nat)) × ((List Nat))) => kScr t.1.1.1), .val (fun t : ((((List Int) × ((List Nat) × Unit)) × (List Nat)) × ((List Nat))) => D.str t.1.1.2.1), .val (fun t : ((((List Int) × ((List Nat) × Unit)) × (List Nat)) × ((List Nat))) => D.str t.2), .un]) (kx := D.int) (ws := [(3, fun v : Int => D.int v)]) (fun s : (((List Int) × ((List Nat) × Unit)) × (List Nat)) => s.2) (ti_lst (td_slC (td_var (k := kScr) (f := fun s : (((List Int) × ((List Nat) × Unit)) × (List Nat)) => s.1.1) 0 rfl) (to_some (td_k (k := D.int) (3 : Int))) (to_some (td_bin (te_td (td_k (k := D.int) (3 : Int))) (te_td (td_modK (c := 8) (td_call (tad_cons (td_var (k := kScr) (f := fun s : (((List Int) × ((List Nat) × Unit)) × (List Nat)) => s.1.1) 0 rfl) (tad_cons (td_k (k := D.int) (2 : Int)) tad_nil)) tf__law_cell_at))) o_add)))) (fun _ _ => rfl) (by exact ⟨(fun _ => rfl), ⟨(fun _ => rfl), ⟨(fun _ => rfl), ⟨trivial, trivial⟩⟩⟩⟩)
    (tb_if (tt_andP (fun s : (((((List Int) × ((List Nat) × Unit)) × (List Nat)) × ((List Nat))) × Int) => (decide ((s.2 % (4 : Int)) = (0 : Int)))) (fun s : (((((List Int) × ((List Nat) × Unit)) × (List Nat)) × ((List Nat))) × Int) => (decide ((Txt.count (S s.1.2) (S ([63] : List Nat))) < (2 : Int)))) (tt_val (k := D.bl) (td_bin (te_td (td_modK (c := 4) (td_var (k := D.int) (f := fun s : (((((List Int) × ((List Nat) × Unit)) × (List Nat)) × ((List Nat))) × Int) => s.2) 3 rfl))) (te_td (td_k (k := D.int) (0 : Int))) (o_eq (k := D.int)))) (tt_val (k := D.bl) (td_bin (te_td (td_bm (te_td (td_var (k := D.str) (f := fun s : (((((List Int) × ((List Nat) × Unit)) × (List Nat)) × ((List Nat))) × Int) => s.1.2) 2 rfl)) (ta_cons (te_td (td_k (k := D.str) ([63] : List Nat))) ta_nil) ik_str (o_count))) (te_td (td_k (k := D.int) (2 : Int))) (o_lt))))
    (tb_last (tb_set (k := D.str) 2 (td_bin (te_td (td_var (k := D.str) (f := fun s : (((((List Int) × ((List Nat) × Unit)) × (List Nat)) × ((List Nat))) × Int) => s.1.2) 2 rfl)) (te_td (td_k (k := D.str) ([63] : List Nat))) o_addS)
    (tb_end (fun s : ((((((List Int) × ((List Nat) × Unit)) × (List Nat)) × ((List Nat))) × Int) × (List Nat)) => s.2) (fun s e μ E => Enc.wk (p := fun s : ((((((List Int) × ((List Nat) × Unit)) × (List Nat)) × ((List Nat))) × Int) × (List Nat)) => (s.1.1.1, s.2)) (by exact ⟨(fun _ => rfl), ⟨(fun _ => rfl), ⟨(fun _ => rfl), ⟨trivial, trivial⟩⟩⟩⟩) E)) (fun _ _ _ _ _ => trivial)))
    (tb_last (tb_set (k := D.str) 2 (td_bin (te_td (td_var (k := D.str) (f := fun s : (((((List Int) × ((List Nat) × Unit)) × (List Nat)) × ((List Nat))) × Int) => s.1.2) 2 rfl)) (te_td (td_bin (te_td (td_var (k := D.str) (f := fun s : (((((List Int) × ((List Nat) × Unit)) × (List Nat)) × ((List Nat))) × Int) => s.1.1.1.2.1) 1 rfl)) (te_td (td_bin (te_td (td_divK (c := 4) (td_var (k := D.int) (f := fun s : (((((List Int) × ((List Nat) × Unit)) × (List Nat)) × ((List Nat))) × Int) => s.2) 3 rfl))) (te_td (td_fn (ta_cons (te_td (td_var (k := D.str) (f := fun s : (((((List Int) × ((List Nat) × Unit)) × (List Nat)) × ((List Nat))) × Int) => s.1.1.1.2.1) 1 rfl)) ta_nil) (o_lenS))) o_mod)) o_ixS)) o_addS)
    (tb_end (fun s : ((((((List Int) × ((List Nat) × Unit)) × (List Nat)) × ((List Nat))) × Int) × (List Nat)) => s.2) (fun s e μ E => Enc.wk (p := fun s : ((((((List Int) × ((List Nat) × Unit)) × (List Nat)) × ((List Nat))) × Int) × (List Nat)) => (s.1.1.1, s.2)) (by exact ⟨(fun _ => rfl), ⟨(fun _ => rfl), ⟨(fun _ => rfl), ⟨trivial, trivial⟩⟩⟩⟩) E)) (fun _ _ _ _ _ => trivial))) (fun _ _ _ _ _ => trivial))
    (tb_retD (td_var (k := D.str) (f := fun s : ((((List Int) × ((List Nat) × Unit)) × (List Nat)) × ((List Nat))) => s.2) 2 rfl) qr_f (fun _ _ _ _ _ => trivial)) (fun _ _ _ _ _ => trivial)) (fun _ _ _ _ _ => trivial)), fun a => by simp only [t__law_rack, R.bind_ok]⟩
noncomputable def t__law_stream (a_cell : Int) (a_many : Int) : R (List Int) := R.fin (N := Unit) (L := Unit) (ρ := (List Int))
    (R.bind (R.ok ([] : List Int)) fun found_38 =>
    (R.bind (R.ok (a_cell / (2 : Int))) fun number_40 =>
    (if (decide ((a_cell % (2 : Int)) = (0 : Int))) then (R.bind (rg1 a_many) fun xs47 => R.seq (ρ := (List Int)) (forR (ρ := (List Int)) xs47 (found_38, number_40) fun (l42 : ((List Int) × Int)) (k_43 : Int) =>
    (R.bind ((appR l42.1 (l42.2 % (100000000000000000000 : Int)))) fun found_44 =>
    (R.bind (R.ok (l42.2 / (100000000000000000000 : Int))) fun number_45 =>
    (R.ok (.nx (found_44, number_45)))))) fun l46 =>
    (R.ok (.rt l46.1)))
    else (R.bind (R.ok (number_40 % (2305843009213693951 : Int))) fun number_48 =>
    (R.bind (rg1 (a_many + (1 : Int))) fun xs63 => R.seq (ρ := (List Int)) (forR (ρ := (List Int)) xs63 (found_38, number_48) fun (l50 : ((List Int) × Int)) (k_51 : Int) =>
    (R.bind ((R.bind (R.bind (R.bind (R.bind (imulR l50.2 l50.2) fun x52 => R.ok (x52 + ((48271 : Int) * l50.2))) fun x54 => R.ok (x54 + ((7 : Int) * k_51))) fun x56 => R.ok (x56 + (3 : Int))) fun x58 => R.ok (x58 % (2305843009213693951 : Int)))) fun number_60 =>
    (R.bind ((appR l50.1 ((((number_60 * (69621 : Int)) % (2147483629 : Int)) * (2147483647 : Int)) + (number_60 % (2147483587 : Int))))) fun found_61 =>
    (R.ok (.nx (found_61, number_60)))))) fun l62 =>
    (R.ok (.rt (cutL l62.1 (some (1 : Int)) none))))))))
theorem tf__law_stream : TF false false (fun a : (Int × (Int × Unit)) => [D.int a.1, D.int a.2.1]) (kLs D.int) F__law_stream (fun a => t__law_stream a.1 a.2.1) := by
  unfold F__law_stream m__law_stream m__law_stream_b1 m__law_stream_b0
  refine tf_mk4 (n := 5) (fs := [fun a : (Int × (Int × Unit)) => D.int a.1, fun a : (Int × (Int × Unit)) => D.int a.2.1]) (r := 3) (Qn := fun _ (_ : Unit) _ _ => True) (Ql := fun _ (_ : Unit) _ _ => True) (Qx := fun _ _ _ => True) ?hk ?h
  case hk => exact fun _ => rfl
  case h => exact ⟨_, (tb_setC (k := (kLs D.int)) 2 (tc_lst (k := (kLs D.int)) (fun a : Unit => ([] : List Int)) tad_nil) (fun n_39 =>
    (tb_set (k := D.int) 3 (td_divK (c := 2) (td_var (k := D.int) (f := fun s : ((Int × (Int × Unit)) × (List Int)) => s.1.1) 0 rfl))
    (tb_ifR0 (tt_val (k := D.bl) (td_bin (te_td (td_modK (c := 2) (td_var (k := D.int) (f := fun s : (((Int × (Int × Unit)) × (List Int)) × Int) => s.1.1.1) 0 rfl))) (te_td (td_k (k := D.int) (0 : Int))) (o_eq (k := D.int)))) (nn_seq nn_ret)
    (tb_for (L' := ((List Int) × Int)) (δ := [.val (fun t : ((((Int × (Int × Unit)) × (List Int)) × Int) × ((List Int) × Int)) => D.int t.1.1.1.1), .val (fun t : ((((Int × (Int × Unit)) × (List Int)) × Int) × ((List Int) × Int)) => D.int t.1.1.1.2.1), .cel (some n_39) (fun t : ((((Int × (Int × Unit)) × (List Int)) × Int) × ((List Int) × Int)) => (kLs D.int) t.2.1), .val (fun t : ((((Int × (Int × Unit)) × (List Int)) × Int) × ((List Int) × Int)) => D.int t.2.2), .un]) (kx := D.int) (ws := [(4, fun v : Int => D.int v)]) (fun s : (((Int × (Int × Unit)) × (List Int)) × Int) => (s.1.2, s.2)) (ti_range1 (td_var (k := D.int) (f := fun s : (((Int × (Int × Unit)) × (List Int)) × Int) => s.1.1.2.1) 1 rfl)) (fun _ _ => rfl) (by exact ⟨(fun _ => rfl), ⟨(fun _ => rfl), ⟨⟨rfl, fun _ => rfl⟩, ⟨(fun _ => rfl), ⟨trivial, trivial⟩⟩⟩⟩⟩)
    (tb_mutD (kc := (kLs D.int)) (f := fun s : (((((Int × (Int × Unit)) × (List Int)) × Int) × ((List Int) × Int)) × Int) => s.1.2.1) 2 rfl (tad_cons (td_modP (c := (100000000000000000000 : Int)) (td_var (k := D.int) (f := fun s : (((((Int × (Int × Unit)) × (List Int)) × Int) × ((List Int) × Int)) × Int) => s.1.2.2) 3 rfl) (td_pow (a := 10) (b := 20) (c := (100000000000000000000 : Int)))) tad_nil) ct_lst (o_appendD (k := D.int))
    (tb_last (tb_set (k := D.int) 3 (td_divP (c := (100000000000000000000 : Int)) (td_var (k := D.int) (f := fun s : ((((((Int × (Int × Unit)) × (List Int)) × Int) × ((List Int) × Int)) × Int) × (List Int)) => s.1.1.2.2) 3 rfl) (td_pow (a := 10) (b := 20) (c := (100000000000000000000 : Int))))
    (tb_end (fun s : (((((((Int × (Int × Unit)) × (List Int)) × Int) × ((List Int) × Int)) × Int) × (List Int)) × Int) => (s.1.2, s.2)) (fun s e μ E => Enc.wk (p := fun s : (((((((Int × (Int × Unit)) × (List Int)) × Int) × ((List Int) × Int)) × Int) × (List Int)) × Int) => (s.1.1.1.1, (s.1.2, s.2))) (by exact ⟨(fun _ => rfl), ⟨(fun _ => rfl), ⟨⟨rfl, fun _ => rfl⟩, ⟨(fun _ => rfl), ⟨trivial, trivial⟩⟩⟩⟩⟩) E)) (fun _ _ _ _ _ => trivial))) (fun _ _ _ _ _ => trivial))
    (tb_retL (k := (kLs D.int)) (f := fun s : ((((Int × (Int × Unit)) × (List Int)) × Int) × ((List Int) × Int)) => s.2.1) 2 rfl qr_l) (fun _ _ _ _ _ => trivial))
    (tb_set (k := D.int) 3 (td_modK (c := 2305843009213693951) (td_var (k := D.int) (f := fun s : (((Int × (Int × Unit)) × (List Int)) × Int) => s.2) 3 rfl))
    (tb_for (L' := ((List Int) × Int)) (δ := [.val (fun t : (((((Int × (Int × Unit)) × (List Int)) × Int) × Int) × ((List Int) × Int)) => D.int t.1.1.1.1.1), .val (fun t : (((((Int × (Int × Unit)) × (List Int)) × Int) × Int) × ((List Int) × Int)) => D.int t.1.1.1.1.2.1), .cel (some n_39) (fun t : (((((Int × (Int × Unit)) × (List Int)) × Int) × Int) × ((List Int) × Int)) => (kLs D.int) t.2.1), .val (fun t : (((((Int × (Int × Unit)) × (List Int)) × Int) × Int) × ((List Int) × Int)) => D.int t.2.2), .un]) (kx := D.int) (ws := [(4, fun v : Int => D.int v)]) (fun s : ((((Int × (Int × Unit)) × (List Int)) × Int) × Int) => (s.1.1.2, s.2)) (ti_range1 (td_bin (te_td (td_var (k := D.int) (f := fun s : ((((Int × (Int × Unit)) × (List Int)) × Int) × Int) => s.1.1.1.2.1) 1 rfl)) (te_td (td_k (k := D.int) (1 : Int))) o_add)) (fun _ _ => rfl) (by exact ⟨(fun _ => rfl), ⟨(fun _ => rfl), ⟨⟨rfl, fun _ => rfl⟩, ⟨(fun _ => rfl), ⟨trivial, trivial⟩⟩⟩⟩⟩)
    (tb_set (k := D.int) 3 (td_modK (c := 2305843009213693951) (td_bin (te_td (td_bin (te_td (td_bin (te_td (td_bin (te_td (td_var (k := D.int) (f := fun s : ((((((Int × (Int × Unit)) × (List Int)) × Int) × Int) × ((List Int) × Int)) × Int) => s.1.2.2) 3 rfl)) (te_td (td_var (k := D.int) (f := fun s : ((((((Int × (Int × Unit)) × (List Int)) × Int) × Int) × ((List Int) × Int)) × Int) => s.1.2.2) 3 rfl)) o_mul)) (te_td (td_kMul (c := 48271) (td_var (k := D.int) (f := fun s : ((((((Int × (Int × Unit)) × (List Int)) × Int) × Int) × ((List Int) × Int)) × Int) => s.1.2.2) 3 rfl))) o_add)) (te_td (td_kMul (c := 7) (td_var (k := D.int) (f := fun s : ((((((Int × (Int × Unit)) × (List Int)) × Int) × Int) × ((List Int) × Int)) × Int) => s.2) 4 rfl))) o_add)) (te_td (td_k (k := D.int) (3 : Int))) o_add))
    (tb_last (tb_mutD (kc := (kLs D.int)) (f := fun s : (((((((Int × (Int × Unit)) × (List Int)) × Int) × Int) × ((List Int) × Int)) × Int) × Int) => s.1.1.2.1) 2 rfl (tad_cons (td_bin (te_td (td_mulK (c := 2147483647) (td_modK (c := 2147483629) (td_mulK (c := 69621) (td_var (k := D.int) (f := fun s : (((((((Int × (Int × Unit)) × (List Int)) × Int) × Int) × ((List Int) × Int)) × Int) × Int) => s.2) 3 rfl))))) (te_td (td_modK (c := 2147483587) (td_var (k := D.int) (f := fun s : (((((((Int × (Int × Unit)) × (List Int)) × Int) × Int) × ((List Int) × Int)) × Int) × Int) => s.2) 3 rfl))) o_add) tad_nil) ct_lst (o_appendD (k := D.int))
    (tb_end (fun s : ((((((((Int × (Int × Unit)) × (List Int)) × Int) × Int) × ((List Int) × Int)) × Int) × Int) × (List Int)) => (s.2, s.1.2)) (fun s e μ E => Enc.wk (p := fun s : ((((((((Int × (Int × Unit)) × (List Int)) × Int) × Int) × ((List Int) × Int)) × Int) × Int) × (List Int)) => (s.1.1.1.1, (s.2, s.1.2))) (by exact ⟨(fun _ => rfl), ⟨(fun _ => rfl), ⟨⟨rfl, fun _ => rfl⟩, ⟨(fun _ => rfl), ⟨trivial, trivial⟩⟩⟩⟩⟩) E)) (fun _ _ _ _ _ => trivial))) (fun _ _ _ _ _ => trivial))
    (tb_retD (td_slL (te_cel (k := (kLs D.int)) (f := fun s : (((((Int × (Int × Unit)) × (List Int)) × Int) × Int) × ((List Int) × Int)) => s.2.1) 2 rfl) (to_some (td_k (k := D.int) (1 : Int))) to_none) qr_d (fun _ _ _ _ _ => trivial)) (fun _ _ _ _ _ => trivial)) (fun _ _ _ _ _ => trivial)) (fun _ _ _ _ _ => trivial)) (fun _ _ _ _ _ => trivial))) (fun _ _ _ _ _ => trivial)), fun a => by simp only [t__law_stream, R.bind_ok]⟩
noncomputable def t_tile_of (a_sign : (List Nat)) : R (List Nat) := R.fin (N := Unit) (L := Unit) (ρ := (List Nat))
    (if (inS a_sign (upL : List Nat)) then (R.ok (.rt ([63] : List Nat)))
    else (R.ok (.rt a_sign)))
theorem tf_tile_of : TF true false (fun a : ((List Nat) × Unit) => [D.str a.1]) D.str F_tile_of (fun a => t_tile_of a.1) := by
  unfold F_tile_of m_tile_of 
  refine tf_mk4 (n := 1) (fs := [fun a : ((List Nat) × Unit) => D.str a.1]) (r := 0) (Qn := fun _ (_ : Unit) _ _ => True) (Ql := fun _ (_ : Unit) _ _ => True) (Qx := fun _ _ _ => True) ?hk ?h
  case hk => exact fun _ => rfl
  case h => exact ⟨_, (tb_ifR0 (tt_val (k := D.bl) (td_bin (te_td (td_var (k := D.str) (f := fun s : ((List Nat) × Unit) => s.1) 0 rfl)) (te_td (td_k (k := D.str) (upL : List Nat))) (o_inS))) nn_ret
    (tb_retD (td_k (k := D.str) ([63] : List Nat)) qr_f (fun _ _ _ _ _ => trivial))
    (tb_retD (td_var (k := D.str) (f := fun s : ((List Nat) × Unit) => s.1) 0 rfl) qr_f (fun _ _ _ _ _ => trivial)) (fun _ _ _ _ _ => trivial)), fun a => by simp only [t_tile_of, R.bind_ok]⟩
noncomputable def t_without (a_rack : (List Nat)) (a_tiles : (List (List Nat))) : R (List Nat) := R.fin (N := Unit) (L := Unit) (ρ := (List Nat))
    (R.bind ((srtSR a_rack)) fun left_64 =>
    (R.seq (ρ := (List Nat)) (forR (ρ := (List Nat)) a_tiles left_64 fun (left_67 : ((List (List Nat)))) (tile_68 : (List Nat)) =>
    (if (!inLk tile_68 left_67) then (R.ex 4 (List.reverse [D.str tile_68]))
    else (R.bind ((remR left_67 tile_68)) fun left_69 =>
    (R.ok (.nx left_69))))) fun l70 =>
    (R.bind (joinR ([] : List Nat) l70) fun x71 => R.ok (.rt x71))))
theorem tf_without : TF true true (fun a : ((List Nat) × ((List (List Nat)) × Unit)) => [D.str a.1, (kLs D.str) a.2.1]) D.str F_without (fun a => t_without a.1 a.2.1) := by
  unfold F_without m_without m_without_b0
  refine tf_mk4 (n := 4) (fs := [fun a : ((List Nat) × ((List (List Nat)) × Unit)) => D.str a.1, fun a : ((List Nat) × ((List (List Nat)) × Unit)) => (kLs D.str) a.2.1]) (r := 2) (Qn := fun _ (_ : Unit) _ _ => True) (Ql := fun _ (_ : Unit) _ _ => True) (Qx := fun _ _ _ => True) ?hk ?h
  case hk => exact fun _ => rfl
  case h => exact ⟨_, (tb_setC (k := (kLs D.str)) 2 (tc_fn (ta_cons (te_td (td_var (k := D.str) (f := fun s : ((List Nat) × ((List (List Nat)) × Unit)) => s.1) 0 rfl)) ta_nil) (o_sortSc)) (fun n_65 =>
    (tb_for (L' := ((List (List Nat)))) (δ := [.val (fun t : ((((List Nat) × ((List (List Nat)) × Unit)) × (List (List Nat))) × ((List (List Nat)))) => D.str t.1.1.1), .val (fun t : ((((List Nat) × ((List (List Nat)) × Unit)) × (List (List Nat))) × ((List (List Nat)))) => (kLs D.str) t.1.1.2.1), .cel (some n_65) (fun t : ((((List Nat) × ((List (List Nat)) × Unit)) × (List (List Nat))) × ((List (List Nat)))) => (kLs D.str) t.2), .un]) (kx := D.str) (ws := [(3, fun v : (List Nat) => D.str v)]) (fun s : (((List Nat) × ((List (List Nat)) × Unit)) × (List (List Nat))) => s.2) (ti_lst (td_var (k := (kLs D.str)) (f := fun s : (((List Nat) × ((List (List Nat)) × Unit)) × (List (List Nat))) => s.1.2.1) 1 rfl)) (fun _ _ => rfl) (by exact ⟨(fun _ => rfl), ⟨(fun _ => rfl), ⟨⟨rfl, fun _ => rfl⟩, ⟨trivial, trivial⟩⟩⟩⟩)
    (tb_ifR0 (tt_val (k := D.bl) (td_bin (te_td (td_var (k := D.str) (f := fun s : (((((List Nat) × ((List (List Nat)) × Unit)) × (List (List Nat))) × ((List (List Nat)))) × (List Nat)) => s.2) 3 rfl)) (te_cel (k := (kLs D.str)) (f := fun s : (((((List Nat) × ((List (List Nat)) × Unit)) × (List (List Nat))) × ((List (List Nat)))) × (List Nat)) => s.1.2) 2 rfl) (o_notInLk (k := D.str)))) nn_raiseI
    (tb_raiseI 4 (tad_cons (td_var (k := D.str) (f := fun s : (((((List Nat) × ((List (List Nat)) × Unit)) × (List (List Nat))) × ((List (List Nat)))) × (List Nat)) => s.2) 3 rfl) tad_nil) (fun _ _ _ _ _ => trivial))
    (tb_last (tb_mutD (kc := (kLs D.str)) (f := fun s : (((((List Nat) × ((List (List Nat)) × Unit)) × (List (List Nat))) × ((List (List Nat)))) × (List Nat)) => s.1.2) 2 rfl (tad_cons (td_var (k := D.str) (f := fun s : (((((List Nat) × ((List (List Nat)) × Unit)) × (List (List Nat))) × ((List (List Nat)))) × (List Nat)) => s.2) 3 rfl) tad_nil) ct_lst (o_remove)
    (tb_end (fun s : ((((((List Nat) × ((List (List Nat)) × Unit)) × (List (List Nat))) × ((List (List Nat)))) × (List Nat)) × (List (List Nat))) => s.2) (fun s e μ E => Enc.wk (p := fun s : ((((((List Nat) × ((List (List Nat)) × Unit)) × (List (List Nat))) × ((List (List Nat)))) × (List Nat)) × (List (List Nat))) => (s.1.1.1, s.2)) (by exact ⟨(fun _ => rfl), ⟨(fun _ => rfl), ⟨⟨rfl, fun _ => rfl⟩, ⟨trivial, trivial⟩⟩⟩⟩) E)) (fun _ _ _ _ _ => trivial))) (fun _ _ _ _ _ => trivial))
    (tb_retD (td_bm (te_td (td_k (k := D.str) ([] : List Nat))) (ta_cons (te_cel (k := (kLs D.str)) (f := fun s : ((((List Nat) × ((List (List Nat)) × Unit)) × (List (List Nat))) × ((List (List Nat)))) => s.2) 2 rfl) ta_nil) ik_str (o_joinL)) qr_f (fun _ _ _ _ _ => trivial)) (fun _ _ _ _ _ => trivial))) (fun _ _ _ _ _ => trivial)), fun a => by simp only [t_without, R.bind_ok]⟩
noncomputable def t_left_of (a_rack : (List Nat)) (a_signs : (List Nat)) : R (List Nat) := R.fin (N := Unit) (L := Unit) (ρ := (List Nat))
    (R.bind (R.bind (R.ne (lcR (sgs a_signs) (fun v72 => R.ok true) fun v72 => (R.ne (t_tile_of v72)))) fun x73 => (R.fl (t_without a_rack x73))) fun x75 => R.ok (.rt x75))
theorem tf_left_of : TF true true (fun a : ((List Nat) × ((List Nat) × Unit)) => [D.str a.1, D.str a.2.1]) D.str F_left_of (fun a => t_left_of a.1 a.2.1) := by
  unfold F_left_of m_left_of m_left_of_e0
  refine tf_mk4 (n := 3) (fs := [fun a : ((List Nat) × ((List Nat) × Unit)) => D.str a.1, fun a : ((List Nat) × ((List Nat) × Unit)) => D.str a.2.1]) (r := 1) (Qn := fun _ (_ : Unit) _ _ => True) (Ql := fun _ (_ : Unit) _ _ => True) (Qx := fun _ _ _ => True) ?hk ?h
  case hk => exact fun _ => rfl
  case h => exact ⟨_, (tb_retD (td_callY (tad_cons (td_var (k := D.str) (f := fun s : ((List Nat) × ((List Nat) × Unit)) => s.1) 0 rfl) (tad_cons (td_lc (x2 := false) (x3 := false) (ws := [(2, fun v : (List Nat) => D.str v)]) (kx := D.str) (ky := D.str) (own := [2]) (tw_ti (ti_str (td_var (k := D.str) (f := fun s : ((List Nat) × ((List Nat) × Unit)) => s.2.1) 1 rfl))) (fun _ _ => rfl) tt_true (td_callN (tad_cons (td_var (k := D.str) (f := fun s : (((List Nat) × ((List Nat) × Unit)) × (List Nat)) => s.2) 2 rfl) tad_nil) tf_tile_of)) tad_nil)) tf_without) qr_f (fun _ _ _ _ _ => trivial)), fun a => by simp only [t_left_of, R.bind_ok]⟩
end T11
namespace T11
open PySem L2 Lr
local macro_rules | `(tactic| walk_at "w") => `(tactic| simp only [ok_bind, ok_ok, ok_gd, ok_ne, ok_fin, ok_finU, ok_finI, ok_seq, fn_rt, fnU_rt, fnU_nx, fnI_nx, sq_nx, sq_rt, sq_bk, sq_ct, lp_nx, lp_rt, lp_bk, lp_ct, ok_imul, ok_idiv, ok_imod, ok_add, ok_app, ok_mul, ok_rg1, ok_rg2, ok_join, ok_low, ok_upp, R.bind_ok, Bool.true_and, Bool.not_true, Bool.not_false, if_true, if_false, Bool.false_eq_true, Bool.or_true, Bool.true_or, Bool.false_or])
theorem sgs_len {z : List Nat} : (sgs z).length = z.length := by unfold sgs; simp
theorem sgs_mem {x : List Nat} {z : List Nat} (h : x ∈ sgs z) : ∃ c ∈ z, x = [c] := by
  unfold sgs at h
  obtain ⟨c, a, rfl⟩ := List.mem_map.mp h
  exact ⟨c, a, rfl⟩
theorem sgs_erase (z : List Nat) (c : Nat) : (sgs z).erase [c] = sgs (z.erase c) := by
  induction z with
  | nil => rfl
  | cons a z ih =>
    show (([a] : List Nat) :: sgs z).erase [c] = _
    rw [List.erase_cons, List.erase_cons]
    by_cases e : a = c
    · rw [e]; simp
    · rw [if_neg (by simpa using e), if_neg (by simpa using e), ih]; rfl
theorem mem_sgs {z : List Nat} {c : Nat} : ([c] : List Nat) ∈ sgs z ↔ c ∈ z := by
  unfold sgs
  rw [List.mem_map]
  constructor
  · rintro ⟨x, hx, e⟩
    cases e
    exact hx
  · exact fun h => ⟨c, h, rfl⟩
theorem dif_len (ts : List Nat) : ∀ rack : List Nat, (dif rack ts).length ≤ rack.length := by
  induction ts with
  | nil => intro rack; exact Nat.le_refl _
  | cons t ts ih => intro rack; exact Nat.le_trans (ih _) List.length_erase_le
theorem dif_perm (ts : List Nat) : ∀ {a b : List Nat}, a.Perm b → (dif a ts).Perm (dif b ts) := by
  induction ts with
  | nil => intro a b h; exact h
  | cons t ts ih => intro a b h; exact ih (h.erase t)
theorem dif_sub (ts : List Nat) : ∀ rack : List Nat, (dif rack ts).Sublist rack := by
  induction ts with
  | nil => intro rack; exact List.Sublist.refl _
  | cons t ts ih => intro rack; exact (ih _).trans (List.erase_sublist ..)
theorem dif_srt (rack ts : List Nat) : dif (srtC rack) ts = srtC (dif rack ts) :=
  ord_perm_eq ((srtC_ord rack).sublist (dif_sub ts _)) (srtC_ord _) ((dif_perm ts (srtC_perm rack)).trans (srtC_perm _).symm)
theorem sum_sgs (z : List Nat) : ((sgs z).map List.length).sum = z.length := by
  induction z with
  | nil => rfl
  | cons c z ih =>
    show (1 : Nat) + ((sgs z).map List.length).sum = _
    rw [ih, List.length_cons]; omega
theorem flat_sgs (z : List Nat) : (sgs z).flatten = z := by
  induction z with
  | nil => rfl
  | cons c z ih => show [c] ++ (sgs z).flatten = _; rw [ih]; rfl
theorem tile_okS (c : Nat) : t_tile_of [c] = .ok [tlN c] := by
  have up : ∀ c, c ∈ upL ↔ 65 ≤ c ∧ c ≤ 90 := fun c => by
    unfold upL
    rw [List.mem_map]
    constructor
    · rintro ⟨x, hx, rfl⟩
      have := List.mem_range.mp hx
      omega
    · intro h
      exact ⟨c - 65, List.mem_range.mpr (by omega), by omega⟩
  unfold t_tile_of tlN
  by_cases h : 65 ≤ c ∧ c ≤ 90
  · rw [if_pos h, if_pos (show inS [c] upL = true from decide_eq_true ((up c).mpr h))]; rfl
  · rw [if_neg h, if_neg (by
      intro z
      exact h ((up c).mp (of_decide_eq_true z)))]; rfl
theorem cell_at_ok (ns : List Int) (k : Int) (hk : 0 ≤ k) {P : Int → Prop} (h : ∀ c, P c) : (t__law_cell_at ns k).Ok P := by
  unfold t__law_cell_at
  walk_at "w"
  split
  · rename_i q
    walk_at "w"
    exact at_ok hk (by simpa using q) fun a _ => h a
  · walk_at "w"; exact h _
noncomputable def Alph (L : List Nat) : Prop := 0 < L.length ∧ L.length ≤ 26 ∧ ∀ c ∈ L, low c
noncomputable def Sg (c : Nat) : Prop := (97 ≤ c ∧ c ≤ 122) ∨ (65 ≤ c ∧ c ≤ 90)
theorem upC_sg {c : Nat} (h : Sg c) : Sg (upC c) := by
  have : ∀ c, c < 123 → Sg c → Sg (upC c) := by unfold Sg; decide
  unfold Sg at h
  exact this c (by omega) h
theorem alph_low : Alph lowL := ⟨by decide, by decide, fun c hc => lowL_mem.mp hc⟩
theorem letters_ok (cell : Int) {P : List Nat → Prop} (h : ∀ L, Alph L → P L) : (t__law_letters cell).Ok P := by
  unfold t__law_letters
  walk_at "w"
  split
  · walk_at "w"; exact h _ alph_low
  · walk_at "w"
    refine ⟨okR_s (by omega), ok_for (fun k (t : List Nat) => t.length = k ∧ ∀ c ∈ t, low c) (len_le (by rw [rgZ_len]; omega)) ⟨rfl, fun c hc => by simp at hc⟩ (fun k x t hx i => ?_) fun t i => ?_⟩
    · obtain ⟨hk, rfl⟩ := rgZ_inv hx
      obtain ⟨i1, i2⟩ := i
      walk_at "w"
      refine ⟨okMul_r ⟨by omega, by omega⟩, at_ok (by omega) (by rw [lowL_len]; omega) fun a ha => ⟨len_le (by simp; omega), by simp [i1], fun c hc => ?_⟩⟩
      rcases List.mem_append.mp hc with z | z
      · exact i2 c z
      · rw [List.mem_singleton.mp z]; exact lowL_mem.mp (List.mem_of_getElem? ha)
    · obtain ⟨i1, i2⟩ := i
      rw [rgZ_len] at i1
      walk_at "w"
      exact h _ ⟨by omega, by omega, i2⟩
theorem rack_ok (ns : List Int) {L : List Nat} (hL : Alph L) {P : List Nat → Prop} (h : ∀ t : List Nat, t.length ≤ 7 → (∀ c ∈ t, low c ∨ c = 63) → P t) : (t__law_rack ns L).Ok P := by
  have l1 := hL.1
  unfold t__law_rack
  walk_at "w"
  refine cell_at_ok ns 2 (by omega) fun c2 => ?_
  have cl : (cutL ns (some 3) (some (3 + c2 % 8))).length ≤ 7 := by
    obtain ⟨k, hk⟩ : ∃ k : Nat, 3 + c2 % 8 = (k : Int) := ⟨(3 + c2 % 8).toNat, by omega⟩
    unfold cutL
    rw [hk, show (3 : Int) = ((3 : Nat) : Int) from rfl, HT.sIx_nat, HT.sIx_nat, List.length_take, List.length_drop]
    omega
  refine ok_for (fun k (t : List Nat) => t.length = k ∧ ∀ c ∈ t, low c ∨ c = 63) (len_le (by omega)) ⟨rfl, fun c hc => by simp at hc⟩ (fun k x t hx i => ?_) fun t i => ?_
  · have hk := (List.getElem?_eq_some_iff.mp hx).1
    obtain ⟨i1, i2⟩ := i
    split
    · walk_at "w"
      refine ⟨len_le (by simp; omega), by simp [i1], fun c hc => ?_⟩
      rcases List.mem_append.mp hc with z | z
      · exact i2 c z
      · exact .inr (List.mem_singleton.mp z)
    · walk_at "w"
      refine ⟨by omega, at_ok (Int.emod_nonneg _ (by omega)) (Int.emod_lt_of_pos _ (by omega)) fun a ha => ⟨len_le (by simp; omega), by simp [i1], fun c hc => ?_⟩⟩
      rcases List.mem_append.mp hc with z | z
      · exact i2 c z
      · rw [List.mem_singleton.mp z]; exact .inl (hL.2.2 a (List.mem_of_getElem? ha))
  · walk_at "w"
    exact h _ (by omega) i.2
theorem stream_ok (cell : Int) {P : List Int → Prop} (h : ∀ xs : List Int, xs.length = 8 → P xs) : (t__law_stream cell 8).Ok P := by
  unfold t__law_stream
  walk_at "w"
  split
  · walk_at "w"
    refine ⟨okR_s (by omega), ok_for (fun k (t : List Int × Int) => t.1.length = k) (len_le (by rw [rgZ_len]; omega)) rfl (fun k x t hx i => ?_) fun t i => ?_⟩
    · obtain ⟨hk, rfl⟩ := rgZ_inv hx
      walk_at "w"
      exact ⟨len_lt (by omega), by simp [i]⟩
    · rw [rgZ_len] at i
      walk_at "w"
      exact h _ i
  · walk_at "w"
    refine ⟨okR_s (by omega), ok_for (fun k (t : List Int × Int) => t.1.length = k ∧ 0 ≤ t.2 ∧ t.2 < 2305843009213693951) (len_le (by rw [rgZ_len]; omega)) ⟨rfl, Int.emod_nonneg _ (by omega), Int.emod_lt_of_pos _ (by omega)⟩ (fun k x t hx i => ?_) fun t i => ?_⟩
    · obtain ⟨hk, rfl⟩ := rgZ_inv hx
      obtain ⟨i1, i2, i3⟩ := i
      walk_at "w"
      exact ⟨.inl ⟨by omega, by omega⟩, len_lt (by omega), by simp [i1], Int.emod_nonneg _ (by omega), Int.emod_lt_of_pos _ (by omega)⟩
    · obtain ⟨i1, _⟩ := i
      rw [rgZ_len] at i1
      walk_at "w"
      refine h _ ?_
      unfold cutL
      rw [show (1 : Int) = ((1 : Nat) : Int) from rfl, HT.sIx_nat, HT.sIx_none, List.length_take, List.length_drop]
      omega
noncomputable def lackN : List Nat → List Nat → Option Nat
  | _, [] => none
  | z, t :: ts => if t ∈ z then lackN (z.erase t) ts else some t
theorem lackN_perm : ∀ (ts : List Nat) {a b : List Nat}, a.Perm b → lackN a ts = lackN b ts
  | [], _, _, _ => rfl
  | t :: ts, a, b, h => by
    unfold lackN
    by_cases c : t ∈ a
    · rw [if_pos c, if_pos (h.mem_iff.mp c)]
      exact lackN_perm ts (h.erase t)
    · rw [if_neg c, if_neg fun z => c (h.mem_iff.mpr z)]
theorem lackF_sgs : ∀ (ts z : List Nat), lackF (sgs z) (sgs ts) = (lackN z ts).map fun c => [c]
  | [], _ => rfl
  | t :: ts, z => by
    show lackF (sgs z) ([t] :: sgs ts) = _
    rw [lackF_cons]
    unfold lackN
    by_cases c : t ∈ z
    · rw [if_pos c, if_pos (mem_sgs.mpr c), sgs_erase, lackF_sgs ts]
    · rw [if_neg c, if_neg fun q => c (mem_sgs.mp q)]; rfl
theorem restF_sgs : ∀ (ts z : List Nat), restF (sgs z) (sgs ts) = sgs (dif z ts)
  | [], _ => rfl
  | t :: ts, z => by
    show restF ((sgs z).erase [t]) (sgs ts) = _
    rw [sgs_erase, restF_sgs ts]; rfl
theorem without_ok {rack : List Nat} (hr : rack.length ≤ 1000) {ts : List Nat} (ht : ts.length ≤ 1000) : t_without rack (sgs ts) = match lackN rack ts with
    | some t => .ex 4 [.str [t]]
    | none => .ok (srtC (dif rack ts)) := by
  unfold t_without
  rw [show srtSR rack = .ok (sgs (srtC rack)) from Lr.R.gd_t (len_le (by omega)), Lr.R.bind_ok]
  rw [forR_eq, Lr.R.gd_t (len_le (by rw [sgs_len]; omega))]
  rw [take_loop (M := Unit) (q := fun t => .ex 4 [.str t]) (q' := fun t => .ex 4 [.str t]) id (fun x => .inl fun _ => rfl) (xs := sgs ts) (l := sgs (srtC rack)) fun t _ l => by
    unfold inLk remR
    by_cases h : t ∈ l
    · simp only [h, decide_true, Bool.not_true, Bool.false_eq_true, if_false, if_true, Lr.R.bind_ok, id]
    · simp only [h, decide_false, Bool.not_false, if_true, if_false, id]
      rfl]
  rw [List.map_id, lackF_sgs, restF_sgs, lackN_perm ts (srtC_perm rack)]
  cases e : lackN rack ts with
  | some t => rfl
  | none =>
    dsimp only [Option.map]
    rw [Lr.R.seq_nx]
    have l1 := dif_len ts (srtC rack)
    rw [srtC_len] at l1
    refine Lr.R.Ok.eq ?_
    walk_at "w"
    exact ⟨len_le (by rw [sum_sgs]; simp; omega), by rw [joinL_nil, flat_sgs, dif_srt]⟩
theorem left_ok {rack : List Nat} (hr : rack.length ≤ 1000) {ss : List Nat} (hs : ss.length ≤ 1000) : t_left_of rack ss = match lackN rack (ss.map tlN) with
    | some t => .ex 4 [.str [t]]
    | none => .ok (srtC (dif rack (ss.map tlN))) := by
  unfold t_left_of
  have e : lcR (sgs ss) (fun _ => Lr.R.ok true) (fun v => Lr.R.ne (t_tile_of v)) = .ok (sgs (ss.map tlN)) := by
    rw [lcR_map (fun s : List Nat => [tlN (s.headD 0)]) (len_le (by rw [sgs_len]; omega)) (fun _ _ => rfl) fun s hs => by
      obtain ⟨c, _, rfl⟩ := sgs_mem hs
      rw [tile_okS]; rfl]
    congr 1
    unfold sgs
    rw [List.map_map, List.map_map]; rfl
  rw [e]
  simp only [Lr.R.ne_ok, Lr.R.bind_ok]
  rw [without_ok hr (by rw [List.length_map]; omega)]
  cases lackN rack (ss.map tlN) <;> rfl
local macro_rules | `(tactic| walk_at "d") => `(tactic| first | assumption | exact isT_s | exact isT_r rfl | omega | (refine len_le ?_; omega) | (refine fuel_lt ?_; omega) | (simp only [lowL_len, upL_len, bothL_len, List.length_cons, List.length_nil, List.length_append, List.length_map, List.length_reverse, List.length_take, List.length_drop, List.length_replicate, chL_len, List.length_set, List.length_range, rangeD_len, rangeC_len] <;> omega) | (refine len_le ?_; simp only [lowL_len, upL_len, bothL_len, List.length_cons, List.length_nil, List.length_append, List.length_map, List.length_reverse, List.length_take, List.length_drop, List.length_replicate, chL_len, List.length_set, List.length_range, rangeD_len, rangeC_len] <;> omega) | (refine fuel_lt ?_; simp only [lowL_len, upL_len, bothL_len, List.length_cons, List.length_nil, List.length_append, List.length_map, List.length_reverse, List.length_take, List.length_drop, List.length_replicate, chL_len, List.length_set, List.length_range, rangeD_len, rangeC_len] <;> omega) | (refine len_lt ?_; simp only [lowL_len, upL_len, bothL_len, List.length_cons, List.length_nil, List.length_append, List.length_map, List.length_reverse, List.length_take, List.length_drop, List.length_replicate, chL_len, List.length_set, List.length_range, rangeD_len, rangeC_len] <;> omega) | decide | rfl)
local macro_rules | `(tactic| walk_at "ev") => `(tactic| simp (disch := walk_at "d") only [
  bodyF_eq, List.map_cons, List.map_nil, List.length_cons, List.length_nil, List.replicate_succ, List.replicate_zero, List.cons_append, List.nil_append, List.append_nil, Nat.reduceSub, Nat.reduceAdd, Nat.zero_add, Nat.sub_self,
  List.getElem?_cons_zero, List.getElem?_cons_succ, List.set_cons_zero, List.set_cons_succ, List.replicate,
  e_K, e_V, e_B, e_B1, e_B2, e_U, e_U1, e_nil, e_cons, e_cons1, e_cons2, e_F, e_F1, e_tup, e_tup1, e_lst, e_lst1, e_tVal, e_tVal1, e_tNot, e_tNot1, e_tAnd, e_tAndT, e_tAndF, e_tOr, e_tOrT, e_tOrF,
  e_and, e_andT, e_andF, e_or, e_orT, e_orF, e_not, e_if, e_ifT, e_ifF, e_ch, e_ch1, e_ch2, e_chT, e_chF, e_ch4, e_oNone, e_oSome, e_oSome1, e_sl, e_sl1, e_sl2, e_sl3, e_slK, e_slK1, e_slK2, e_slK3, e_M, e_M1, e_M2, e_Mt, e_Mt1, e_Mt1r, e_Mt2,
  e_next, e_seq, e_seq_nx, e_seq_rt, e_seq_bk, e_seq_ct, e_expr, e_expr1, e_ret, e_ret1, e_retN, e_brk, e_cnt, e_sno, e_sif, e_sifT, e_sifF, e_set, e_set1, e_asg, e_for, e_for1, e_while, e_sub, e_sub1, e_sub2, e_tTrue, e_lc, e_lc1, e_lc2, e_iVal, e_iValS, e_iValT, e_iValL, e_iValC, e_range1, e_range1', e_range2, e_range2', mkL_f, mkL_t, setT_nm, e_aug, e_aug1, e_fl, e_fl1,
  d_div, d_mod, d_sub, d_add, d_addS, d_addL, d_addT, d_neg, d_ixS, d_ixT, d_ixL, d_ixC, d_slS, d_slT, d_slL, d_slC, d_slKS, cutL_map, d_ltI, d_leI, d_gtI, d_geI, d_lenS, d_lenT, d_lenL, d_lenC, d_inS, d_notInS, d_eqI, d_neI, d_eqS, d_neS, d_eqB, d_neB,
  d_isB, d_isNotB, e_flO, kFlo1, cast2, cast3, cast4, cast5, cast6, cast7, cast8, cast9, cast10, cast11, cast12, List.length_map, m_append, kApp1, d_lenR, kLen1, d_slR, kSl1, d_pow1020, d_mulS, d_mul1, d_mul2, d_intB, d_intI, d_max2, d_min2, d_tupleL, d_tupleT, d_listT, d_listL, d_fldO, m_joinC, e_range3, e_asg2, kAs1, setT_tp, setTs_cons, setTs_nil, kTs1, chL_len, isi_bool_str, isi_bool_tup, isi_list_tup, isi_list_str,
  isi_str_str, isi_str_int, isi_str_bl, isi_str_non, isi_str_tup, isi_str_lst, isi_bool_bl, isi_bool_int, isi_int_int, isi_int_bl, isi_int_str, isi_int_non, isi_int_tup, isi_int_lst, isi_tuple_tup, isi_tuple_str, isi_tuple_int, isi_tuple_bl, isi_tuple_non, isi_tuple_lst, isi_list_lst,
  ofOt_rt, ofOt_nx, ofOt_xc, ofOt_ite, isT_str, beq_self_eq_true, m_lower1, m_upper1, Bool.not_true, Bool.not_false, decide_true, decide_false, cast_lit, Int.natCast_one, Int.natCast_zero, Int.natCast_add, Int.reduceEq, Int.reduceLT, Int.reduceLE, Int.reduceAdd, Int.reduceSub, Int.reduceMul, Int.reduceDiv, Int.reduceMod, Int.reduceToNat, Int.reduceNeg, Int.toNat_zero, Int.toNat_one, eq_self, List.cons.injEq, *])
theorem sgs_chL (z : List Nat) : (sgs z).map D.str = chL z := (chL_sgs z).symm
noncomputable def kA : SM := (sSet 7 (cB dIx (cV 3) (cV 6)))
noncomputable def kB : SM := (sSet 8 (cB dIx (cV 2) (cB dMod (cB dDiv (cV 7) (cK (.int 8))) (cF dLen (cCons (cV 2) cNil)))))
noncomputable def kC : SM := (sIf (tVal (cB dEq (cB dMod (cV 7) (cK (.int 3))) (cK (.int 0)))) (sSet 8 (cM "str" mUpper (cV 8) cNil)) sNext)
noncomputable def kD : SM := (sIf (tAndD (tVal (cB dEq (cB dMod (cV 0) (cK (.int 2))) (cK (.int 1)))) (tVal (cB dNe (cV 4) (cLst false cNil)))) (sSeq (sSet 9 (cM "list" mPopAt (cV 4) (cCons (cB dMod (cB dDiv (cV 7) (cK (.int 64))) (cF dLen (cCons (cV 4) cNil))) cNil)))
  (sSet 8 (cB dIx (cLst false (cCons (cV 9) (cCons (cM "str" mUpper (cV 8) cNil) cNil))) (cF dInt (cCons (cB dEq (cV 9) (cK (.str [63]))) cNil))))) sNext)
noncomputable def kE : SM := (sSet 5 (cB (dAdd false) (cV 5) (cV 8)))
theorem b0_eq : m__law_signs_b0 = sSeq kA (sSeq kB (sSeq kC (sSeq kD kE))) := rfl
theorem signs_b0 (c : Int) {L rack : List Nat} (hL : Alph L) {xs : List Int} (hx : xs.length = 8) {k : Nat} (hk : k < 8) {ss os : List Nat} (hs : ss.length = k) (hss : ∀ c ∈ ss, Sg c) (ho : ∀ c ∈ os, low c ∨ c = 63) (hol : os.length ≤ 7) (o7 o8 o9 : Option D) :
    ∃ (s : Nat) (os' : List Nat) (p7 p8 p9 : Option D), Sg s ∧ (∀ c ∈ os', low c ∨ c = 63) ∧ os'.length ≤ 7 ∧
      m__law_signs_b0 [some (.int c), some (.str rack), some (.str L), some (kLs D.int xs), some (.ref 0), some (.str ss), some (.int (k : Int)), o7, o8, o9] [.lst (chL os)] =
        some (.nx [some (.int c), some (.str rack), some (.str L), some (kLs D.int xs), some (.ref 0), some (.str (ss ++ [s])), some (.int (k : Int)), p7, p8, p9] [.lst (chL os')]) := by
  obtain ⟨l0, l26, lc⟩ := hL
  obtain ⟨x, hxk⟩ : ∃ x, xs[k]? = some x := ⟨_, List.getElem?_eq_getElem (by omega)⟩
  have ix : ∀ μ, dIx (kLs D.int xs) (.int (k : Int)) μ = .ok (.int x, μ) := fun μ => by
    show dIx (.lst (xs.map D.int)) _ μ = _
    rw [d_ixL (by omega) (by rw [List.length_map]; omega), Int.toNat_natCast, List.getD_eq_getElem?_getD, List.getElem?_map, hxk]; rfl
  have v8 : ∀ μ, dDiv (.int x) (.int 8) μ = .ok (.int (x / 8), μ) := fun _ => d_div (by decide) (by decide)
  have v64 : ∀ μ, dDiv (.int x) (.int 64) μ = .ok (.int (x / 64), μ) := fun _ => d_div (by decide) (by decide)
  have ln : ∀ μ, dLen [.str L] μ = .ok (.int (L.length : Int), μ) := fun _ => d_lenS
  have md : ∀ μ, dMod (.int (x / 8)) (.int (L.length : Int)) μ = .ok (.int (x / 8 % (L.length : Int)), μ) := fun _ => d_mod (by omega)
  have b0 := Int.emod_nonneg (x / 8) (b := (L.length : Int)) (by omega)
  have b1 := Int.emod_lt_of_pos (x / 8) (b := (L.length : Int)) (by omega)
  obtain ⟨l, hl⟩ : ∃ l, L[(x / 8 % (L.length : Int)).toNat]? = some l := ⟨_, List.getElem?_eq_getElem (by omega)⟩
  have lm := lc l (List.mem_of_getElem? hl)
  have il : ∀ μ, dIx (.str L) (.int (x / 8 % (L.length : Int))) μ = .ok (.str [l], μ) := fun μ => by
    rw [d_ixS b0 (by omega), List.getD_eq_getElem?_getD, hl]; rfl
  have m3 : ∀ μ, dMod (.int x) (.int 3) μ = .ok (.int (x % 3), μ) := fun _ => d_mod (by decide)
  have e3 : ∀ μ, dEq (.int (x % 3)) (.int 0) μ = .ok (.bl (decide (x % 3 = 0)), μ) := fun _ => d_eqI
  have m2 : ∀ μ, dMod (.int c) (.int 2) μ = .ok (.int (c % 2), μ) := fun _ => d_mod (by decide)
  have e2 : ∀ μ, dEq (.int (c % 2)) (.int 1) μ = .ok (.bl (decide (c % 2 = 1)), μ) := fun _ => d_eqI
  have ul : l < 128 := by have := lm.2; omega
  have up : ∀ μ, mUpper (.str [l]) [] μ = .ok (.str [upC l], μ) := fun _ => m_upper1 ul
  -- the sign that is drawn
  obtain ⟨s1, hs1, sgd⟩ : ∃ s1, Sg s1 ∧ kC [some (.int c), some (.str rack), some (.str L), some (kLs D.int xs), some (.ref 0), some (.str ss), some (.int (k : Int)), some (.int x), some (.str [l]), o9] [.lst (chL os)] =
      some (.nx [some (.int c), some (.str rack), some (.str L), some (kLs D.int xs), some (.ref 0), some (.str ss), some (.int (k : Int)), some (.int x), some (.str [s1]), o9] [.lst (chL os)]) := by
    by_cases h : x % 3 = 0
    · rw [decide_eq_true h] at e3
      refine ⟨upC l, upC_sg (.inl lm), ?_⟩
      unfold kC
      generalize kLs D.int xs = KX
      generalize [D.lst (chL os)] = M at *
      simp (disch := exact isT_s) only [e_seq, e_seq_nx, e_sif, e_tVal, e_B, e_B1, e_B2, e_V, e_K, List.getElem?_cons_zero, List.getElem?_cons_succ, m3, e3, e_tVal1, e_sifT, e_set, e_M, e_M1, e_nil, e_M2, up, e_set1, List.set_cons_zero, List.set_cons_succ]
    · rw [decide_eq_false h] at e3
      refine ⟨l, .inl lm, ?_⟩
      unfold kC
      generalize kLs D.int xs = KX
      generalize [D.lst (chL os)] = M at *
      simp only [e_seq, e_seq_nx, e_sif, e_tVal, e_B, e_B1, e_B2, e_V, e_K, List.getElem?_cons_zero, List.getElem?_cons_succ, m3, e3, e_tVal1, e_sifF, e_next]
  have rA : kA [some (.int c), some (.str rack), some (.str L), some (kLs D.int xs), some (.ref 0), some (.str ss), some (.int (k : Int)), o7, o8, o9] [.lst (chL os)] = some (.nx [some (.int c), some (.str rack), some (.str L), some (kLs D.int xs), some (.ref 0), some (.str ss), some (.int (k : Int)), some (.int x), o8, o9] [.lst (chL os)]) := by
    unfold kA
    generalize kLs D.int xs = KX at *
    generalize [D.lst (chL os)] = M at *
    simp only [e_set, e_set1, e_B, e_B1, e_B2, e_V, List.getElem?_cons_zero, List.getElem?_cons_succ, List.set_cons_zero, List.set_cons_succ, ix]
  have rB : kB [some (.int c), some (.str rack), some (.str L), some (kLs D.int xs), some (.ref 0), some (.str ss), some (.int (k : Int)), some (.int x), o8, o9] [.lst (chL os)] = some (.nx [some (.int c), some (.str rack), some (.str L), some (kLs D.int xs), some (.ref 0), some (.str ss), some (.int (k : Int)), some (.int x), some (.str [l]), o9] [.lst (chL os)]) := by
    unfold kB
    generalize kLs D.int xs = KX at *
    generalize [D.lst (chL os)] = M at *
    simp only [e_set, e_set1, e_B, e_B1, e_B2, e_V, e_K, e_F, e_F1, e_cons, e_cons1, e_cons2, e_nil, List.getElem?_cons_zero, List.getElem?_cons_succ, List.set_cons_zero, List.set_cons_succ, v8, ln, md, il]
  have us1 : s1 < 128 := by unfold Sg at hs1; omega
  have up1 : ∀ μ, mUpper (.str [s1]) [] μ = .ok (.str [upC s1], μ) := fun _ => m_upper1 us1
  have ne : dNe (.ref 0) (.lst []) [.lst (chL os)] = .ok (.bl (!decide (sgs os = [])), [.lst (chL os)]) := by
    have := o_ne (x := false) (k := kLs D.str) (sgs os) [] [.lst (chL os)] (.ref 0) (.lst []) (.inr ⟨0, rfl, by show some (D.lst (chL os)) = some (.lst ((sgs os).map D.str)); rw [sgs_chL], rfl⟩) (.inl rfl)
    exact this
  have lst0 : ∀ μ, kLst (.ok (([] : List D), μ)) false = .ok (.lst [], μ) := fun _ => e_lst1 (len_le (by simp))
  have addS : ∀ (s : Nat) (μ : Mu), dAdd false (.str ss) (.str [s]) μ = .ok (.str (ss ++ [s]), μ) := fun s _ => d_addS (len_le (by simp; omega))
  by_cases hc : c % 2 = 1
  · rw [decide_eq_true hc] at e2
    by_cases hn : sgs os = []
    · rw [decide_eq_true hn] at ne
      refine ⟨s1, os, some (.int x), some (.str [s1]), o9, hs1, ho, hol, ?_⟩
      generalize kLs D.int xs = KX at *
      generalize [D.lst (chL os)] = M at *
      rw [b0_eq, e_seq, rA, e_seq_nx, e_seq, rB, e_seq_nx, e_seq, sgd, e_seq_nx]
      unfold kD kE
      simp only [e_seq, e_sif, e_tAnd, e_tVal, e_B, e_B1, e_B2, e_V, e_K, List.getElem?_cons_zero, List.getElem?_cons_succ, List.set_cons_zero, List.set_cons_succ, m2, e2, e_tVal1, e_tAndT, e_lst, e_nil, lst0, ne, Bool.not_true, e_sifF, e_next, e_seq_nx, e_set, e_set1, addS]
    · rw [decide_eq_false hn] at ne
      have ol : 0 < os.length := List.length_pos_iff.mpr fun z => hn (by rw [z]; rfl)
      have lo : dLen [.ref 0] [.lst (chL os)] = .ok (.int (os.length : Int), [.lst (chL os)]) := by
        show dLen [.ref 0] [.lst (chL os)] = _
        have : dLen [.ref 0] [.lst (chL os)] = .ok (.int ((chL os).length : Int), [.lst (chL os)]) := rfl
        rw [this, chL_len]
      have mo : ∀ μ, dMod (.int (x / 64)) (.int (os.length : Int)) μ = .ok (.int (x / 64 % (os.length : Int)), μ) := fun _ => d_mod (by omega)
      have c0 := Int.emod_nonneg (x / 64) (b := (os.length : Int)) (by omega)
      have c1 := Int.emod_lt_of_pos (x / 64) (b := (os.length : Int)) (by omega)
      obtain ⟨j, hj⟩ : ∃ j : Nat, x / 64 % (os.length : Int) = (j : Int) := ⟨(x / 64 % (os.length : Int)).toNat, by omega⟩
      rw [hj] at mo c1
      have jl : j < os.length := by omega
      have po : mPopAt (.ref 0) [.int (j : Int)] [.lst (chL os)] = .ok (.str [os[j]], [.lst (chL (os.eraseIdx j))]) := by
        have e : (chL os).length = os.length := chL_len os
        have sq : seqIndex? (j : Int) (chL os).length = some j := by
          rw [e]
          unfold seqIndex?
          simp only [show ¬ ((j : Int) < 0) by omega, if_false]
          rw [if_pos (by simp; omega), Int.toNat_natCast]
        have g : (chL os)[j]? = some (.str [os[j]]) := by unfold chL; rw [List.getElem?_map, List.getElem?_eq_getElem jl]; rfl
        unfold mPopAt lst1
        simp only [List.getElem?_cons_zero]
        rw [if_pos ⟨by omega, by omega⟩, sq]
        simp only [g, List.set_cons_zero]
        rw [show (chL os).eraseIdx j = chL (os.eraseIdx j) from by unfold chL; first | rw [eraseIdx_map] | rw [← eraseIdx_map]]
      have tm := ho _ (List.getElem_mem jl)
      have he : ∀ c ∈ os.eraseIdx j, low c ∨ c = 63 := fun c hc => ho c (List.mem_of_mem_eraseIdx hc)
      have hel : (os.eraseIdx j).length ≤ 7 := Nat.le_trans (List.length_eraseIdx_le ..) hol
      have eq63 : ∀ μ, dEq (.str [os[j]]) (.str [63]) μ = .ok (.bl (decide (os[j] = 63)), μ) := fun μ => by rw [d_eqS]; exact congrArg (fun b => Res.ok (D.bl b, μ)) (decide_eq_decide.mpr (by simp))
      have it : isT "list" (.ref 0) [.lst (chL os)] = true := isT_r (ds := chL os) rfl
      have l2 : ∀ (a b : D) μ, kLst (.ok ([a, b], μ)) false = .ok (.lst [a, b], μ) := fun a b μ => e_lst1 (len_le (by simp))
      obtain ⟨s2, hs2, pk⟩ : ∃ s2, Sg s2 ∧ ∀ μ, dIx (.lst [.str [os[j]], .str [upC s1]]) (.int (if decide (os[j] = 63) = true then 1 else 0)) μ = .ok (.str [s2], μ) := by
        by_cases h : os[j] = 63
        · rw [decide_eq_true h]
          exact ⟨upC s1, upC_sg hs1, fun μ => rfl⟩
        · rw [decide_eq_false h]
          exact ⟨os[j], .inl (tm.resolve_right h), fun μ => rfl⟩
      have di : ∀ μ, dInt [.bl (decide (os[j] = 63))] μ = .ok (.int (if decide (os[j] = 63) = true then 1 else 0), μ) := fun _ => d_intB
      refine ⟨s2, os.eraseIdx j, some (.int x), some (.str [s2]), some (.str [os[j]]), hs2, he, hel, ?_⟩
      generalize kLs D.int xs = KX at *
      generalize os[j] = tile at *
      generalize (os.length : Int) = oln at *
      generalize [D.lst (chL os)] = M at *
      generalize [D.lst (chL (os.eraseIdx j))] = M2 at *
      rw [b0_eq, e_seq, rA, e_seq_nx, e_seq, rB, e_seq_nx, e_seq, sgd, e_seq_nx]
      unfold kD kE
      simp (disch := first | exact isT_s | exact it) only [e_seq, e_sif, e_tAnd, e_tVal, e_B, e_B1, e_B2, e_V, e_K, List.getElem?_cons_zero, List.getElem?_cons_succ, List.set_cons_zero, List.set_cons_succ, m2, e2, e_tVal1, e_tAndT, e_lst, e_nil, lst0, ne, Bool.not_false, e_sifT, e_seq, e_seq_nx, e_set, e_set1, e_M, e_M1, e_M2, e_cons, e_cons1, e_cons2, v64, e_F, e_F1, lo, mo, po, up1, l2, eq63, di, pk, addS]
  · rw [decide_eq_false hc] at e2
    refine ⟨s1, os, some (.int x), some (.str [s1]), o9, hs1, ho, hol, ?_⟩
    generalize kLs D.int xs = KX at *
    generalize [D.lst (chL os)] = M at *
    rw [b0_eq, e_seq, rA, e_seq_nx, e_seq, rB, e_seq_nx, e_seq, sgd, e_seq_nx]
    unfold kD kE
    simp only [e_seq, e_sif, e_tAnd, e_tVal, e_B, e_B1, e_B2, e_V, e_K, List.getElem?_cons_zero, List.getElem?_cons_succ, List.set_cons_zero, List.set_cons_succ, m2, e2, e_tVal1, e_tAndF, e_sifF, e_next, e_seq_nx, e_set, e_set1, addS]
theorem signs_run (c : Int) {L rack : List Nat} (hL : Alph L) (hr : rack.length ≤ 7) (hr2 : ∀ c ∈ rack, low c ∨ c = 63) : ∃ ss : List Nat, ss.length ≤ 7 ∧ (∀ c ∈ ss, Sg c) ∧ ∀ μ, pureC F__law_signs [.int c, .str rack, .str L] μ = .ok (.str ss, μ) := by
  obtain ⟨xs, exs, hx⟩ := (stream_ok c (P := fun xs => xs.length = 8) fun xs h => h).get
  have y1 : ∀ μ, pureC F__law_stream [.int c, .int 8] μ = .ok (kLs D.int xs, μ) := fun μ => tf__law_stream.pure (a := (c, 8, ())) rfl exs
  obtain ⟨x7, h7⟩ : ∃ x, xs[7]? = some x := ⟨_, List.getElem?_eq_getElem (by omega)⟩
  have ix : ∀ μ, dIx (kLs D.int xs) (.int 7) μ = .ok (.int x7, μ) := fun μ => by
    show dIx (.lst (xs.map D.int)) _ μ = _
    rw [d_ixL (by omega) (by rw [List.length_map]; omega), List.getD_eq_getElem?_getD, List.getElem?_map, show (7 : Int).toNat = 7 from rfl, h7]; rfl
  have m8 : ∀ μ, dMod (.int x7) (.int 8) μ = .ok (.int (x7 % 8), μ) := fun _ => d_mod (by decide)
  obtain ⟨n, hn⟩ : ∃ n : Nat, x7 % 8 = (n : Int) := ⟨(x7 % 8).toNat, by omega⟩
  rw [hn] at m8
  have n8 : n < 8 := by omega
  have rg : ∀ μ, kR1 (.ok ([.int (n : Int)], μ)) = .ok (.fix (rangeD 0 n), μ) := fun μ => by rw [e_range1' (by omega) (by omega), Int.toNat_natCast]
  obtain ⟨e2, μ2, lp, ss, os, p6, p7, p8, p9, hs, hss, _, _, rfl, rfl⟩ := forGo_inv (T := .nm 6) (b := m__law_signs_b0) (ds := rangeD 0 n) (f := fuel)
    (e := [some (.int c), some (.str rack), some (.str L), some (kLs D.int xs), some (.ref 0), some (.str []), none, none, none, none]) (μ := [.lst (chL rack)])
    (fun i e μ => ∃ (ss os : List Nat) (p6 p7 p8 p9 : Option D), ss.length = i ∧ (∀ c ∈ ss, Sg c) ∧ (∀ c ∈ os, low c ∨ c = 63) ∧ os.length ≤ 7 ∧ e = [some (.int c), some (.str rack), some (.str L), some (kLs D.int xs), some (.ref 0), some (.str ss), p6, p7, p8, p9] ∧ μ = [.lst (chL os)])
    ⟨[], rack, none, none, none, none, rfl, fun c hc => by simp at hc, hr2, hr, rfl, rfl⟩ (fuel_lt (by rw [rangeD_len]; omega)) (by
      rintro i d e μ hd ⟨ss, os, p6, p7, p8, p9, i1, i2, i3, i4, rfl, rfl⟩
      obtain ⟨hi, rfl⟩ := range_get hd
      obtain ⟨s, os', q7, q8, q9, q1, q2, q3, st⟩ := signs_b0 c (rack := rack) hL hx (k := i) (by omega) i1 i2 i3 i4 p7 p8 p9
      rw [show (0 : Int) + (i : Nat) = ((i : Nat) : Int) by omega]
      refine ⟨_, rfl, _, _, .inl st, ss ++ [s], os', _, _, _, _, by simp [i1], fun c hc => ?_, q2, q3, rfl, rfl⟩
      rcases List.mem_append.mp hc with z | z
      · exact i2 c z
      · rw [List.mem_singleton.mp z]; exact q1)
  rw [rangeD_len] at hs
  refine ⟨ss, by omega, hss, fun μ => pureC_nr (μ' := [.lst (chL os)]) ?_ rfl rfl⟩
  have ls : dListA true [.str rack] [] = .ok (.ref 0, [.lst (chL rack)]) := by rw [d_listAS (len_le (by omega))]; rfl
  clear hL hr hr2 exs hx h7 hn n8 hs hss
  generalize kLs D.int xs = KX at *
  generalize rangeD 0 n = RN at *
  generalize [D.lst (chL rack)] = M1 at *
  generalize [D.lst (chL os)] = M2 at *
  generalize (n : Int) = ni at *
  unfold F__law_signs m__law_signs
  simp only [bodyF_eq, List.map_cons, List.map_nil, List.length_cons, List.length_nil, Nat.zero_add, Nat.reduceAdd, Nat.reduceSub, List.replicate, List.cons_append, List.nil_append, e_seq, e_seq_nx, e_set, e_set1, e_F, e_F1, e_cons, e_cons1, e_cons2, e_nil, e_V, e_K, e_B, e_B1, e_B2, List.getElem?_cons_zero, List.getElem?_cons_succ, List.set_cons_zero, List.set_cons_succ, y1, ls, e_for, e_range1, ix, m8, rg, e_for1, lp, e_ret, e_ret1, ofOt_rt]
noncomputable def dueD (rack ts : List Nat) : D := match lackN rack ts with
  | some t => .lst [.str [t]]
  | none => .str (srtC (dif rack ts))
theorem due_run {rack ss : List Nat} (hr : rack.length ≤ 7) (hs : ss.length ≤ 7) (hss : ∀ c ∈ ss, Sg c) (μ : Mu) : pureC F__law_due [.str rack, .str ss] μ = .ok (dueD rack (ss.map tlN), μ) := by
  have lo : ∀ c, Sg c → ∀ μ, dNe (.str [loC c]) (.str [c]) μ = .ok (.bl (decide (65 ≤ c ∧ c ≤ 90)), μ) := fun c hc μ => by
    have : ∀ c, c < 123 → Sg c → (!decide (([loC c] : List Nat) = [c])) = decide (65 ≤ c ∧ c ≤ 90) := by unfold Sg; decide
    rw [d_neS, this c (by unfold Sg at hc; omega) hc]
  have step : ∀ (z : List Nat) (c : Nat) (p4 : Option D), Sg c → z.length ≤ 7 →
      (tlN c ∈ z → m__law_due_b0 [some (.str rack), some (.str ss), some (.ref 0), some (.str [c]), p4] [.lst (chL z)] = some (.nx [some (.str rack), some (.str ss), some (.ref 0), some (.str [c]), some (.str [tlN c])] [.lst (chL (z.erase (tlN c)))])) ∧
      (tlN c ∉ z → m__law_due_b0 [some (.str rack), some (.str ss), some (.ref 0), some (.str [c]), p4] [.lst (chL z)] = some (.rt (.lst [.str [tlN c]]) [.lst (chL z)])) := fun z c p4 hc hz => by
    have lw : ∀ μ, mLower (.str [c]) [] μ = .ok (.str [loC c], μ) := fun _ => m_lower1 (by unfold Sg at hc; omega)
    have lo := lo c hc
    have ct : ∀ t : Nat, mCountS (.ref 0) [.str [t]] [.lst (chL z)] = .ok (.int (z.count t : Nat), [.lst (chL z)]) := fun t => by
      unfold mCountS
      have e : lof (.ref 0) [.lst (chL z)] = some ((sgs z).map D.str) := by
        rw [sgs_chL]; rfl
      simp only [e, textsOf_strs]
      have : ∀ z : List Nat, (sgs z).count [t] = z.count t := fun z => by
        induction z with
        | nil => rfl
        | cons a z ih =>
          show (([a] : List Nat) :: sgs z).count [t] = _
          rw [List.count_cons, List.count_cons, ih]
          congr 1
          by_cases e : a = t
          · rw [e]; simp
          · rw [if_neg (by simpa using e), if_neg (by simpa using e)]
      rw [this]
    have eq0 : ∀ (n : Nat) μ, dEq (.int (n : Int)) (.int 0) μ = .ok (.bl (decide ((n : Int) = 0)), μ) := fun _ _ => d_eqI
    have il : isT "list" (.ref 0) [.lst (chL z)] = true := isT_r (ds := chL z) rfl
    have rm : tlN c ∈ z → mRemove (.ref 0) [.str [tlN c]] [.lst (chL z)] = .ok (.non, [.lst (chL (z.erase (tlN c)))]) := fun h => by
      have := m_remS (ws := sgs z) (x := [tlN c]) (n := 0) (μ := [.lst (chL z)]) (by rw [sgs_chL]; rfl) (mem_sgs.mpr h)
      rw [this, sgs_erase, sgs_chL]; rfl
    have l1 : ∀ (a : D) μ, kLst (.ok ([a], μ)) false = .ok (.lst [a], μ) := fun a μ => e_lst1 (len_le (by simp))
    -- the tile
    have tile : ∀ (s : SM) (p : Option D), sSeq (sSet 4 (cV 3)) (sSeq (sIf (tVal (cB dNe (cM "str" mLower (cV 3) cNil) (cV 3))) (sSet 4 (cK (.str [63]))) sNext) s) [some (.str rack), some (.str ss), some (.ref 0), some (.str [c]), p] [.lst (chL z)] =
        s [some (.str rack), some (.str ss), some (.ref 0), some (.str [c]), some (.str [tlN c])] [.lst (chL z)] := fun s p => by
      generalize [D.lst (chL z)] = M at *
      by_cases u : 65 ≤ c ∧ c ≤ 90
      · rw [decide_eq_true u] at lo
        rw [show tlN c = 63 from if_pos u]
        simp (disch := exact isT_s) only [e_seq, e_seq_nx, e_set, e_set1, e_V, e_K, List.getElem?_cons_zero, List.getElem?_cons_succ, List.set_cons_zero, List.set_cons_succ, e_sif, e_tVal, e_B, e_B1, e_B2, e_M, e_M1, e_M2, e_nil, lw, lo, e_tVal1, e_sifT]
      · rw [decide_eq_false u] at lo
        rw [show tlN c = c from if_neg u]
        simp (disch := exact isT_s) only [e_seq, e_seq_nx, e_set, e_set1, e_V, e_K, List.getElem?_cons_zero, List.getElem?_cons_succ, List.set_cons_zero, List.set_cons_succ, e_sif, e_tVal, e_B, e_B1, e_B2, e_M, e_M1, e_M2, e_nil, lw, lo, e_tVal1, e_sifF, e_next]
    have ct := ct (tlN c)
    have eq0 := eq0 (z.count (tlN c))
    generalize tlN c = t at *
    refine ⟨fun h => ?_, fun h => ?_⟩
    · have rm := rm h
      have hp := List.count_pos_iff.mpr h
      rw [decide_eq_false (by omega)] at eq0
      generalize ((z.count t : Nat) : Int) = cn at *
      generalize [D.lst (chL z)] = M at *
      generalize [D.lst (chL (z.erase t))] = M2 at *
      unfold m__law_due_b0
      rw [tile]
      simp (disch := exact il) only [e_seq, e_seq_nx, e_sif, e_tVal, e_B, e_B1, e_B2, e_M, e_M1, e_M2, e_cons, e_cons1, e_cons2, e_nil, e_V, e_K, List.getElem?_cons_zero, List.getElem?_cons_succ, ct, eq0, e_tVal1, e_sifF, e_next, e_expr, e_expr1, rm]
    · rw [List.count_eq_zero.mpr h] at ct eq0
      rw [decide_eq_true (by omega)] at eq0
      generalize ((0 : Nat) : Int) = cn at *
      generalize [D.lst (chL z)] = M at *
      unfold m__law_due_b0
      rw [tile]
      simp (disch := exact il) only [e_seq, e_seq_nx, e_sif, e_tVal, e_B, e_B1, e_B2, e_M, e_M1, e_M2, e_cons, e_cons1, e_cons2, e_nil, e_V, e_K, List.getElem?_cons_zero, List.getElem?_cons_succ, ct, eq0, e_tVal1, e_sifT, e_lst, l1, e_ret, e_ret1, e_seq_rt]
  have ls : dListA true [.str rack] [] = .ok (.ref 0, [.lst (chL rack)]) := by rw [d_listAS (len_le (by omega))]; rfl
  have fnd := forGo_find (T := .nm 3) (b := m__law_due_b0) (ds := ss.map fun c => D.str [c]) (f := fuel)
    (e := [some (.str rack), some (.str ss), some (.ref 0), none, none]) (μ := [.lst (chL rack)])
    (fun i e μ => ∃ (z : List Nat) (p3 p4 : Option D), z.length ≤ 7 ∧ lackN rack (ss.map tlN) = lackN z ((ss.map tlN).drop i) ∧ dif rack (ss.map tlN) = dif z ((ss.map tlN).drop i) ∧ e = [some (.str rack), some (.str ss), some (.ref 0), p3, p4] ∧ μ = [.lst (chL z)])
    (fun v μ => ∃ t z, lackN rack (ss.map tlN) = some t ∧ v = .lst [.str [t]] ∧ μ = [.lst (chL z)])
    ⟨rack, none, none, hr, rfl, rfl, rfl, rfl⟩ (by rw [List.length_map]; exact fuel_lt (by omega)) (by
      rintro i d e μ hd ⟨z, p3, p4, i1, i2, i3, rfl, rfl⟩
      rw [List.getElem?_map] at hd
      obtain ⟨c, hc, rfl⟩ := Option.map_eq_some_iff.mp hd
      have hi := (List.getElem?_eq_some_iff.mp hc).1
      have hsg := hss c (List.mem_of_getElem? hc)
      have dr : (ss.map tlN).drop i = tlN c :: (ss.map tlN).drop (i + 1) := by
        rw [List.drop_eq_getElem_cons (by rw [List.length_map]; exact hi)]
        congr 1
        rw [List.getElem_map, (List.getElem?_eq_some_iff.mp hc).2]
      rw [dr] at i2 i3
      obtain ⟨s1, s2⟩ := step z c p4 hsg i1
      refine ⟨_, rfl, ?_⟩
      by_cases h : tlN c ∈ z
      · refine .inl ⟨_, _, .inl (s1 h), z.erase (tlN c), _, _, Nat.le_trans List.length_erase_le i1, ?_, i3, rfl, rfl⟩
        rw [i2]
        show (if tlN c ∈ z then _ else _) = _
        rw [if_pos h]
      · refine .inr ⟨_, _, s2 h, tlN c, z, ?_, rfl, rfl⟩
        rw [i2]
        show (if tlN c ∈ z then _ else _) = _
        rw [if_neg h])
  rcases fnd with ⟨e2, μ2, lp, z, p3, p4, i1, i2, i3, rfl, rfl⟩ | ⟨v, μ2, lp, t, z, i2, rfl, rfl⟩
  · rw [List.length_map, List.drop_eq_nil_of_le (by rw [List.length_map]; exact Nat.le_refl _)] at i2 i3
    have ed : dueD rack (ss.map tlN) = .str (srtC z) := by
      unfold dueD
      rw [i2, i3]; rfl
    rw [ed]
    refine pureC_nr (μ' := [.lst (chL z)]) ?_ rfl rfl
    have so : dSortA false [.ref 0] [.lst (chL z)] = .ok (.lst (chL (srtC z)), [.lst (chL z)]) := by
      rw [d_sortAR (ws := sgs z) (n := 0) (by rw [sgs_chL]; rfl) (len_le (by rw [sgs_len]; omega)), mkL_f]
      have : srtS (sgs z) = sgs (srtC z) := by
        unfold srtS srtC sgs
        exact (List.map_mergeSort (r := PySem.W.dataLe false encC) (s := fun a b : List Nat => PySem.W.dataLe false encS (S a) (S b)) (f := fun c : Nat => ([c] : List Nat)) (l := z) fun _ _ _ _ => rfl).symm
      rw [this, sgs_chL]
    have jn : ∀ μ, mJoin (.str []) [.lst (chL (srtC z))] μ = .ok (.str (srtC z), μ) := fun μ => m_joinC (len_le (by rw [srtC_len]; omega))
    generalize [D.lst (chL rack)] = M1 at *
    generalize [D.lst (chL z)] = M2 at *
    unfold F__law_due m__law_due
    simp (disch := exact isT_s) only [bodyF_eq, List.map_cons, List.map_nil, List.length_cons, List.length_nil, Nat.zero_add, Nat.reduceAdd, Nat.reduceSub, List.replicate, List.cons_append, List.nil_append, e_seq, e_seq_nx, e_set, e_set1, e_F, e_F1, e_cons, e_cons1, e_cons2, e_nil, e_V, e_K, List.getElem?_cons_zero, List.getElem?_cons_succ, List.set_cons_zero, List.set_cons_succ, ls, e_for, e_iVal, e_iValS, e_for1, lp, e_M, e_M1, e_M2, so, jn, e_ret, e_ret1, ofOt_rt]
  · have ed : dueD rack (ss.map tlN) = .lst [.str [t]] := by
      unfold dueD
      rw [i2]
    rw [ed]
    refine pureC_nr (μ' := [.lst (chL z)]) ?_ rfl rfl
    generalize [D.lst (chL rack)] = M1 at *
    generalize [D.lst (chL z)] = M2 at *
    unfold F__law_due m__law_due
    simp only [bodyF_eq, List.map_cons, List.map_nil, List.length_cons, List.length_nil, Nat.zero_add, Nat.reduceAdd, Nat.reduceSub, List.replicate, List.cons_append, List.nil_append, e_seq, e_seq_nx, e_set, e_set1, e_F, e_F1, e_cons, e_cons1, e_cons2, e_nil, e_V, e_K, List.getElem?_cons_zero, List.getElem?_cons_succ, List.set_cons_zero, List.set_cons_succ, ls, e_for, e_iVal, e_iValS, e_for1, lp, e_seq_rt, ofOt_rt]
theorem tryA_xc {cat : Nat → Option Bool} {i : Nat} {mb ms : SM} {e e' : Ev} {μ μ' : Mu} {c : Nat} {ds : List D} (h : mb e μ = some (.xc c ds e' μ')) (hc : cat c = some true) : sTryA cat i mb ms e μ = gone i (ms (e'.set i (some (.exc c ds))) μ') := by
  unfold sTryA
  rw [h]
  dsimp only
  rw [hc]
theorem tryA_nx {cat : Nat → Option Bool} {i : Nat} {mb ms : SM} {e e' : Ev} {μ μ' : Mu} (h : mb e μ = some (.nx e' μ')) : sTryA cat i mb ms e μ = some (.nx e' μ') := by
  unfold sTryA
  rw [h]
noncomputable def tb : SM := (sSet 2 (cF (pureY F_left_of) (cCons (cV 0) (cCons (cV 1) cNil))))
noncomputable def ts : SM := (sSeq (sSet 4 (cLst false (cCons (cU (dIsX (catOf [(4, false)]) (some false)) (cV 3)) (cCons (cU (dIsX (catOf [(4, false)]) (some false)) (cV 3)) (cCons (cU (dIsX (catOf [(4, false)]) (some false)) (cV 3)) (cCons (cU (dIsX (catOf [(4, false)]) (some false)) (cV 3)) cNil))))))
  (sIf (tAndD (tVal (cU (dIsX (catOf [(4, true)]) (some false)) (cV 3))) (tAndD (tVal (cU (dIsX (catOf [(4, true)]) none) (cV 3))) (tNotD (tVal (cF (dBools fun bs => bs.any id) (cCons (cB (dAdd false) (cV 4) (cLst false (cCons (cU (dIsX (catOf [(4, false)]) (some false)) (cV 3)) cNil))) cNil)))))) (sSet 2 (cLst false (cCons (cU (dXf [(4, 0)]) (cV 3)) cNil))) sNext))
theorem told_eq : m__law_told = sSeq (sSet 2 (cK .non)) (sSeq (sTryA (catOf [(4, true)]) 3 tb ts) (sRet (cV 2))) := rfl
theorem suite_run (A B : D) (t : Nat) (μ : Mu) : ts [some A, some B, some .non, some (.exc 4 [.str [t]]), none] μ = some (.nx [some A, some B, some (.lst [.str [t]]), some (.exc 4 [.str [t]]), some (.lst [.bl false, .bl false, .bl false, .bl false])] μ) := by
  have x0 : ∀ μ : Mu, dIsX (catOf [(4, false)]) (some false) (.exc 4 [.str [t]]) μ = .ok (.bl false, μ) := fun _ => rfl
  have x1 : ∀ μ : Mu, dIsX (catOf [(4, true)]) (some false) (.exc 4 [.str [t]]) μ = .ok (.bl true, μ) := fun _ => rfl
  have x2 : ∀ μ : Mu, dIsX (catOf [(4, true)]) none (.exc 4 [.str [t]]) μ = .ok (.bl true, μ) := fun _ => rfl
  have l4 : ∀ (a b c d : D) (μ : Mu), kLst (.ok ([a, b, c, d], μ)) false = .ok (.lst [a, b, c, d], μ) := fun _ _ _ _ _ => e_lst1 (len_le (by simp))
  have l1 : ∀ (a : D) (μ : Mu), kLst (.ok ([a], μ)) false = .ok (.lst [a], μ) := fun _ _ => e_lst1 (len_le (by simp))
  have ad : ∀ μ : Mu, dAdd false (.lst [.bl false, .bl false, .bl false, .bl false]) (.lst [.bl false]) μ = .ok (.lst [.bl false, .bl false, .bl false, .bl false, .bl false], μ) := fun _ => d_addL (len_le (by simp))
  have an : ∀ μ : Mu, dBools (fun bs => bs.any id) [.lst [.bl false, .bl false, .bl false, .bl false, .bl false]] μ = .ok (.bl false, μ) := fun _ => rfl
  have xf : ∀ μ : Mu, dXf [(4, 0)] (.exc 4 [.str [t]]) μ = .ok (.str [t], μ) := fun _ => rfl
  unfold ts
  simp only [e_seq, e_seq_nx, e_set, e_set1, e_lst, e_cons, e_cons1, e_cons2, e_nil, e_U, e_U1, e_V, List.getElem?_cons_zero, List.getElem?_cons_succ, List.set_cons_zero, List.set_cons_succ, x0, x1, x2, l4, l1, e_sif, e_tAnd, e_tVal, e_tVal1, e_tAndT, e_tNot, e_F, e_F1, e_B, e_B1, e_B2, ad, an, e_tNot1, Bool.not_false, e_sifT, xf]
theorem told_run {rack ss : List Nat} (hr : rack.length ≤ 7) (hs : ss.length ≤ 7) (μ : Mu) : pureC F__law_told [.str rack, .str ss] μ = .ok (dueD rack (ss.map tlN), μ) := by
  have el := left_ok (rack := rack) (ss := ss) (by omega) (by omega)
  have sm := pureY_sim (μ := []) tf_left_of (a := (rack, ss, ())) rfl
  dsimp only at sm
  rw [el] at sm
  have gn : ∀ (e : Ev) (μ : Mu), gone 3 (some (.nx e μ)) = some (.nx (e.set 3 none) μ) := fun _ _ => rfl
  unfold dueD
  cases e : lackN rack (ss.map tlN) with
  | some t =>
    rw [e] at sm
    dsimp only at sm
    have sm := sm rfl
    dsimp only
    refine pureC_nr (μ' := []) ?_ rfl rfl
    have hb : tb [some (.str rack), some (.str ss), some .non, none, none] [] = some (.xc 4 [.str [t]] [some (.str rack), some (.str ss), some .non, none, none] []) := by
      unfold tb
      simp only [e_set, e_F, e_cons, e_cons1, e_cons2, e_nil, e_V, List.getElem?_cons_zero, List.getElem?_cons_succ, e_F1]
      rw [show pureY F_left_of [.str rack, .str ss] [] = .ex 4 [.str [t]] [] from sm]
      rfl
    have h1 := tryA_xc (cat := catOf [(4, true)]) (i := 3) (ms := ts) hb rfl
    have h2 := suite_run (.str rack) (.str ss) t []
    unfold F__law_told
    rw [told_eq]
    simp only [bodyF_eq, List.map_cons, List.map_nil, List.length_cons, List.length_nil, Nat.zero_add, Nat.reduceAdd, Nat.reduceSub, List.replicate, List.cons_append, List.nil_append, e_seq, e_seq_nx, e_set, e_set1, e_K, List.set_cons_zero, List.set_cons_succ] at h1 ⊢
    simp only [h1, h2, gn, e_seq_nx, List.set_cons_zero, List.set_cons_succ, e_ret, e_V, List.getElem?_cons_zero, List.getElem?_cons_succ, e_ret1, ofOt_rt]
  | none =>
    rw [e] at sm
    dsimp only at sm ⊢
    refine pureC_nr (μ' := []) ?_ rfl rfl
    have hb : tb [some (.str rack), some (.str ss), some .non, none, none] [] = some (.nx [some (.str rack), some (.str ss), some (.str (srtC (dif rack (ss.map tlN)))), none, none] []) := by
      unfold tb
      simp only [e_set, e_F, e_cons, e_cons1, e_cons2, e_nil, e_V, List.getElem?_cons_zero, List.getElem?_cons_succ, e_F1]
      rw [show pureY F_left_of [.str rack, .str ss] [] = .ok (.str (srtC (dif rack (ss.map tlN))), []) from sm]
      rfl
    have h1 := tryA_nx (cat := catOf [(4, true)]) (i := 3) (ms := ts) hb
    unfold F__law_told
    rw [told_eq]
    simp only [bodyF_eq, List.map_cons, List.map_nil, List.length_cons, List.length_nil, Nat.zero_add, Nat.reduceAdd, Nat.reduceSub, List.replicate, List.cons_append, List.nil_append, e_seq, e_seq_nx, e_set, e_set1, e_K, List.set_cons_zero, List.set_cons_succ, h1, e_ret, e_V, List.getElem?_cons_zero, List.getElem?_cons_succ, e_ret1, ofOt_rt]
theorem due_rev (rack ts : List Nat) : dueD rack.reverse ts = dueD rack ts := by
  unfold dueD
  rw [lackN_perm ts (List.reverse_perm rack), srtC_perm_eq (dif_perm ts (List.reverse_perm rack))]
theorem due_eq (rack ts : List Nat) (μ : Mu) : (∃ b, dIsi "str" (dueD rack ts) μ = .ok (.bl b, μ)) ∧ dNe (dueD rack ts) (dueD rack ts) μ = .ok (.bl false, μ) := by
  unfold dueD
  cases lackN rack ts with
  | some t =>
    refine ⟨⟨false, rfl⟩, ?_⟩
    have : dNe (.lst [.str [t]]) (.lst [.str [t]]) μ = .ok (.bl (!decide ([[t]] = ([[t]] : List (List Nat)))), μ) := o_ne (x := false) (k := kLs D.str) [[t]] [[t]] μ (.lst [.str [t]]) (.lst [.str [t]]) (.inl rfl) (.inl rfl)
    dsimp only
    rw [this, decide_eq_true rfl]; rfl
  | none =>
    refine ⟨⟨true, isi_str_str⟩, ?_⟩
    dsimp only
    rw [d_neS, decide_eq_true rfl]; rfl
theorem law_true : LawTrue F_law := fun ns hn => by
  obtain ⟨c0, ec, _⟩ := (cell_at_ok ns 0 (by omega) (P := fun _ => True) fun _ => trivial).get
  obtain ⟨L, eL, hL⟩ := (letters_ok c0 (P := fun L => Alph L) fun L h => h).get
  obtain ⟨rack, er, hr, hr2⟩ := (rack_ok ns hL (P := fun t => t.length ≤ 7 ∧ ∀ c ∈ t, low c ∨ c = 63) fun t h1 h2 => ⟨h1, h2⟩).get
  have ns1 : ∀ x : List D, nrs x = true → nrs (.scr (ns.map .int) :: x) = true := fun x hx => by
    show (nr (kScr ns) && nrs x) = true
    rw [Kn.nr, hx]; rfl
  have y1 : ∀ μ, pureC F__law_cell_at [.scr (ns.map .int), .int 0] μ = .ok (.int c0, μ) := fun μ => tf__law_cell_at.pure (a := (ns, 0, ())) (ns1 _ rfl) ec
  have y2 : ∀ μ, pureC F__law_letters [.int c0] μ = .ok (.str L, μ) := fun μ => tf__law_letters.pure (a := (c0, ())) rfl eL
  have y3 : ∀ μ, pureC F__law_rack [.scr (ns.map .int), .str L] μ = .ok (.str rack, μ) := fun μ => tf__law_rack.pure (a := (ns, L, ())) (ns1 _ rfl) er
  have rv : rack.reverse.length ≤ 7 := by rw [List.length_reverse]; exact hr
  have cl := cutL_len ns (some 10) (some 60)
  -- a text of signs
  have step : ∀ (c : Int) (o4 o5 o6 o7 : Option D), ∃ p4 p5 p6 p7, m_law_b1 [some (.scr (ns.map .int)), some (.str L), some (.str rack), some (.int c), o4, o5, o6, o7] [] = some (.nx [some (.scr (ns.map .int)), some (.str L), some (.str rack), some (.int c), p4, p5, p6, p7] []) := fun c o4 o5 o6 o7 => by
    obtain ⟨ss, s7, hss, y4⟩ := signs_run c (rack := rack) hL hr hr2
    have y5 := fun μ => due_run (rack := rack) hr s7 hss μ
    have t1 := fun μ => told_run (rack := rack) hr s7 μ
    have t2 := fun μ => told_run (rack := rack.reverse) rv s7 μ
    rw [due_rev] at t2
    obtain ⟨b, ib⟩ : ∃ b, ∀ μ, dIsi "str" (dueD rack (ss.map tlN)) μ = .ok (.bl b, μ) := by
      unfold dueD
      cases lackN rack (ss.map tlN) with
      | some t => exact ⟨false, fun _ => rfl⟩
      | none => exact ⟨true, fun _ => isi_str_str⟩
    have nb : ∀ μ, dNe (.bl b) (.bl b) μ = .ok (.bl false, μ) := fun μ => by rw [d_neB, decide_eq_true rfl]; rfl
    have nd := fun μ => (due_eq rack (ss.map tlN) μ).2
    have sr : ∀ e μ, cSlK (-1) (cV 2) oNone oNone e μ = cSlK (-1) (cV 2) oNone oNone e μ := fun _ _ => rfl
    have one : ∀ (x : List Nat) (q6 q7 : Option D), (∀ μ, pureC F__law_told [.str x, .str ss] μ = .ok (dueD rack (ss.map tlN), μ)) →
        m_law_b0 [some (.scr (ns.map .int)), some (.str L), some (.str rack), some (.int c), some (.str ss), some (dueD rack (ss.map tlN)), some (.str x), q7] [] =
          some (.nx [some (.scr (ns.map .int)), some (.str L), some (.str rack), some (.int c), some (.str ss), some (dueD rack (ss.map tlN)), some (.str x), some (dueD rack (ss.map tlN))] []) := fun x q6 q7 tx => by
      generalize dueD rack (ss.map tlN) = DD at *
      generalize ns.map D.int = NS at *
      unfold m_law_b0
      simp only [e_seq, e_seq_nx, e_set, e_set1, e_F, e_F1, e_cons, e_cons1, e_cons2, e_nil, e_V, List.getElem?_cons_zero, List.getElem?_cons_succ, List.set_cons_zero, List.set_cons_succ, tx, e_sif, e_tOr, e_tVal, e_B, e_B1, e_B2, e_U, e_U1, ib, nb, e_tVal1, e_tOrF, nd, e_sifF, e_next]
    obtain ⟨e2, μ2, lp, p6, p7, rfl, rfl⟩ := forGo_inv (T := .nm 6) (b := m_law_b0) (ds := [.str rack, .str rack.reverse]) (f := fuel)
      (e := [some (.scr (ns.map .int)), some (.str L), some (.str rack), some (.int c), some (.str ss), some (dueD rack (ss.map tlN)), o6, o7]) (μ := [])
      (fun i e μ => ∃ p6 p7, e = [some (.scr (ns.map .int)), some (.str L), some (.str rack), some (.int c), some (.str ss), some (dueD rack (ss.map tlN)), p6, p7] ∧ μ = [])
      ⟨o6, o7, rfl, rfl⟩ (fuel_lt (by simp)) (by
        rintro i d e μ hd ⟨p6, p7, rfl, rfl⟩
        match i, hd with
        | 0, hd => cases hd; exact ⟨_, rfl, _, _, .inl (one rack p6 p7 t1), _, _, rfl, rfl⟩
        | 1, hd => cases hd; exact ⟨_, rfl, _, _, .inl (one rack.reverse p6 p7 t2), _, _, rfl, rfl⟩
        | i + 2, hd => simp at hd)
    refine ⟨some (.str ss), some (dueD rack (ss.map tlN)), p6, p7, ?_⟩
    have l2 : ∀ (a b : D) (μ : Mu), kLst (.ok ([a, b], μ)) false = .ok (.lst [a, b], μ) := fun _ _ _ => e_lst1 (len_le (by simp))
    have rvs : ∀ e : Ev, e[2]? = some (some (.str rack)) → ∀ μ, cSlK (-1) (cV 2) oNone oNone e μ = .ok (.str rack.reverse, μ) := fun e he μ => by
      simp only [e_slK, e_V, he, e_slK1, e_oNone, e_slK2, e_slK3, d_slKS]
      rw [cutK_rev]
    have rvs := rvs [some (.scr (ns.map .int)), some (.str L), some (.str rack), some (.int c), some (.str ss), some (dueD rack (ss.map tlN)), o6, o7] rfl
    clear one nd ib nb t1 t2 hss s7 sr
    generalize dueD rack (ss.map tlN) = DD at *
    generalize ns.map D.int = NS at *
    unfold m_law_b1
    simp only [e_seq, e_seq_nx, e_set, e_set1, e_F, e_F1, e_cons, e_cons1, e_cons2, e_nil, e_V, List.getElem?_cons_zero, List.getElem?_cons_succ, List.set_cons_zero, List.set_cons_succ, y4, y5, e_for, e_iVal, e_lst, rvs, l2, mkL_f, e_iValL, e_for1, lp]
  obtain ⟨e2, μ2, lp, p3, p4, p5, p6, p7, rfl, rfl⟩ := forGo_inv (T := .nm 3) (b := m_law_b1) (ds := [.int 0] ++ (cutL ns (some 10) (some 60)).map D.int) (f := fuel)
    (e := [some (.scr (ns.map .int)), some (.str L), some (.str rack), none, none, none, none, none]) (μ := [])
    (fun i e μ => ∃ p3 p4 p5 p6 p7, e = [some (.scr (ns.map .int)), some (.str L), some (.str rack), p3, p4, p5, p6, p7] ∧ μ = [])
    ⟨none, none, none, none, none, rfl, rfl⟩ (fuel_lt (by rw [List.length_append, List.length_map]; simp; omega)) (by
      rintro i d e μ hd ⟨p3, p4, p5, p6, p7, rfl, rfl⟩
      obtain ⟨c, rfl⟩ : ∃ c : Int, d = .int c := by
        rcases List.mem_append.mp (List.mem_of_getElem? hd) with z | z
        · exact ⟨0, List.mem_singleton.mp z⟩
        · obtain ⟨c, _, rfl⟩ := List.mem_map.mp z
          exact ⟨c, rfl⟩
      obtain ⟨q4, q5, q6, q7, st⟩ := step c p4 p5 p6 p7
      exact ⟨_, rfl, _, _, .inl st, _, _, _, _, _, rfl, rfl⟩)
  refine ⟨[], ?_⟩
  have sl : ∀ μ, dSl false (.scr (ns.map .int)) (some 10) (some 60) μ = .ok (.lst ((cutL ns (some 10) (some 60)).map D.int), μ) := fun μ => by rw [d_slC, cutL_map]; rfl
  have ad : ∀ μ, dAdd false (.lst [.int 0]) (.lst ((cutL ns (some 10) (some 60)).map D.int)) μ = .ok (.lst ([.int 0] ++ (cutL ns (some 10) (some 60)).map D.int), μ) := fun μ => d_addL (len_le (by rw [List.length_map]; simp; omega))
  have l1 : ∀ (a : D) (μ : Mu), kLst (.ok ([a], μ)) false = .ok (.lst [a], μ) := fun _ _ => e_lst1 (len_le (by simp))
  have t0 := fun μ => told_run (rack := rack) (ss := []) hr (by simp) μ
  have d0 : dueD rack (([] : List Nat).map tlN) = .str (srtC rack) := rfl
  rw [d0] at t0
  have so : ∀ μ, dSortA false [.str rack] μ = .ok (.lst (chL (srtC rack)), μ) := fun μ => by
    show dSortL false [.str rack] μ = _
    rw [d_sortLS (len_le (by omega)), mkL_f]
  have jn : ∀ μ, mJoin (.str []) [.lst (chL (srtC rack))] μ = .ok (.str (srtC rack), μ) := fun μ => m_joinC (len_le (by rw [srtC_len]; omega))
  have eq : ∀ μ, dEq (.str (srtC rack)) (.str (srtC rack)) μ = .ok (.bl true, μ) := fun μ => by rw [d_eqS, decide_eq_true rfl]
  clear step
  generalize (cutL ns (some 10) (some 60)).map D.int = CL at *
  generalize ns.map D.int = NS at *
  generalize [D.int 0] ++ CL = CC at *
  unfold F_law m_law
  simp (disch := exact isT_s) only [bodyF_eq, List.map_cons, List.map_nil, List.length_cons, List.length_nil, Nat.zero_add, Nat.reduceAdd, Nat.reduceSub, List.replicate, List.cons_append, List.nil_append, e_seq, e_seq_nx, e_set, e_set1, e_F, e_F1, e_cons, e_cons1, e_cons2, e_nil, e_V, e_K, e_B, e_B1, e_B2, List.getElem?_cons_zero, List.getElem?_cons_succ, List.set_cons_zero, List.set_cons_succ, y1, y2, y3, e_for, e_iVal, e_lst, l1, e_sl, e_sl1, e_sl2, e_sl3, e_oSome, e_oSome1, sl, ad, e_iValL, e_for1, lp, e_ret, t0, e_M, e_M1, e_M2, so, jn, eq, e_ret1, ofOt_rt]
end T11
open PySem PySem.W PyProof.Rows in
set_option maxRecDepth 100000 in
set_option maxHeartbeats 0 in
theorem PySem.Challenge.cw_letterrack_k11_what_is_left_holds : PySem.Challenge.rw_letterrack_k11_what_is_left.Holds := by
  w_on; o_law; k_head; (case hw => w_witness2)
  k_fill
  refine Lr.law_walk (l := PySem.Challenge.rw_letterrack_k11_what_is_left) (k := 6) (nm := T11.nm) (F := T11.F_law) (x := "law") rfl rfl ⟨by decide, by decide, by decide⟩ (fun w h Y => PySem.W.kIn_of Y) rfl T11.law_true rfl ?F
  case F =>
    intro w mg h KX G
    refine' T11.ok_all ⟨PySem.W.mg_none_of KX G ?_, PySem.W.mg_none_of KX G ?_, PySem.W.mg_none_of KX G ?_, PySem.W.mg_none_of KX G ?_, PySem.W.mg_none_of KX G ?_, PySem.W.mg_none_of KX G ?_, PySem.W.mg_none_of KX G ?_, PySem.W.mg_none_of KX G ?_, PySem.W.mg_none_of KX G ?_, PySem.W.mg_of KX G ?_, PySem.W.mg_of KX G ?_, PySem.W.mg_of KX G ?_, PySem.W.mg_of KX G ?_, PySem.W.mg_of KX G ?_, PySem.W.mg_of KX G ?_, PySem.W.mg_of KX G ?_, PySem.W.mg_of KX G ?_, PySem.W.mg_of KX G ?_, ⟨?_, ?_, ?_⟩, ?_, ?_, ?_, ?_, ?_, ?_, ?_, ?_, ?_, ?_, ?_, ?_, ?_, ?_, ?_, Lr.xcB_ok ?_, Lr.oexC_mk ?_ ?_ ?_ (Lr.xcB_ok ?_)⟩ (Lr.xinitSrc_mk ?_ ?_ ?_ ?_ ?_) (Lr.defSrc_mk KX G ?_ ?_ ?_ ?_) (Lr.defSrc_mk KX G ?_ ?_ ?_ ?_) (Lr.defSrc_mk KX G ?_ ?_ ?_ ?_) (Lr.defSrc_mk KX G ?_ ?_ ?_ ?_) (Lr.defSrc_mk KX G ?_ ?_ ?_ ?_) (Lr.defSrc_mk KX G ?_ ?_ ?_ ?_) (Lr.defSrc_mk KX G ?_ ?_ ?_ ?_) (Lr.defSrc_mk KX G ?_ ?_ ?_ ?_) (Lr.defSrc_mk KX G ?_ ?_ ?_ ?_) (Lr.defSrc_mk KX G ?_ ?_ ?_ ?_) (Lr.defSrc_mk KX G ?_ ?_ ?_ ?_)
    all_goals first | k_is | kernel_rfl | rfl | skip
    all_goals first | k_is | kernel_rfl | rfl | skip
    all_goals first | k_is | kernel_rfl | rfl | skip
