import PyProof.Rows.All
import HandS.ForMost
import HandS.ForExc
import HandS.Flow
import HandS.Defaults
import HandS.IsInst
import HandS.HeadHook1
import HandS.Deep
import HandS.SortInts
import HandS.TupLe
import HandS.TupLen
import HandS.Wide
import HandS.Strs
import HandS.StrMore
import HandS.More
import HandS.Keys
import HandS.Conv
import HandS.Style
import HandS.WordsDict
import HandS.Text
import HandS.RaiseMore
import KE.KSortedM
import HandS.SortKw
import HandS.Ends
import HandS.Words
import HandS.WordsExc
import HandS.Head0
import HandS.Head1
import HandS.Head2
import HandS.HeadEnd
import HandS.HeadHook2
import HandS.HeadHook3
import HandS.HeadHook4
import HandS.HeadWalk
import KE.KStateDown
import PySem.Challenge.RW_mingle_k80_negated_formulas
set_option Elab.async false
set_option linter.all false
set_option maxRecDepth 100000
set_option maxHeartbeats 0
/-! DLa: data over the abstract heap: plain data P and how it lies there, owned objects, results. -/
namespace DL
open PySem PySem.Spec
open PyProof.Rows L2

/-- plain data: nothing in it changes any more -/
inductive P where
  | non | bl (b : Bool) | int (i : Int) | str (x : Str)
  | tup (xs : List P) | lst (xs : List P)
  /-- a list of ints from outside, only read -/
  | scr (ns : List Int)
  /-- a tuple of the module's own top -/
  | ctup (xs : List P)
  | dK (kvs : List (Key × P)) | dT (kvs : List (List Key × P))
  | ins (C : Str) (fs : List (Str × P))

mutual
inductive Rep (K : PySem.W.Frag) (F : Hp) : P → V → Prop
  | non : Rep K F .non .non
  | bl (b : Bool) : Rep K F (.bl b) (.bl b)
  | int (i : Int) : Rep K F (.int i) (.int i)
  | str (x : Str) : Rep K F (.str x) (.str x)
  | tup {a : Addr} {xs : List P} {vs : List V} : F a = some (.tup vs) → RepL K F xs vs → Rep K F (.tup xs) (.ref a)
  | lst {a : Addr} {xs : List P} {vs : List V} : F a = some (.lst vs) → RepL K F xs vs → Rep K F (.lst xs) (.ref a)
  | ctup {a : Addr} {xs : List P} {vs : List V} : (∀ H : Hp, SqT K H a vs) → RepL K F xs vs → Rep K F (.ctup xs) (.ref a)
  | scr {a : Addr} {ns : List Int} : SqL K F a (ns.map V.int) → Rep K F (.scr ns) (.ref a)
  | dK {a : Addr} {xs : List (Key × P)} {vs : List (Key × V)} : Rd F a (.dK vs) → RepKV K F xs vs → Rep K F (.dK xs) (.ref a)
  | dT {a : Addr} {xs : List (List Key × P)} {vs : List (List Key × V)} : Rd F a (.dT vs) → RepKV K F xs vs → Rep K F (.dT xs) (.ref a)
  | ins {a dx : Addr} {C : Str} {xs : List (Str × P)} {vs : List (Str × V)} : F a = some (.ins (He.ga K C) dx vs) → RepKV K F xs vs → Rep K F (.ins C xs) (.ref a)
inductive RepL (K : PySem.W.Frag) (F : Hp) : List P → List V → Prop
  | nil : RepL K F [] []
  | cons {p : P} {v : V} {ps : List P} {vs : List V} : Rep K F p v → RepL K F ps vs → RepL K F (p :: ps) (v :: vs)
inductive RepKV (K : PySem.W.Frag) (F : Hp) : {κ : Type} → List (κ × P) → List (κ × V) → Prop
  | nil {κ : Type} : RepKV K F (κ := κ) [] []
  | cons {κ : Type} {k : κ} {p : P} {v : V} {ps : List (κ × P)} {vs : List (κ × V)} : Rep K F p v → RepKV K F ps vs → RepKV K F ((k, p) :: ps) ((k, v) :: vs)
end

theorem rd_mono {F F' : Hp} (s : Same F F') {a : Addr} {u : HO} (h : Rd F a u) : Rd F' a u := by
  rcases h with h | ⟨o, h⟩
  · exact .inl (s _ _ h)
  · exact .inr ⟨o, s _ _ h⟩
mutual
theorem Rep.mono {K : PySem.W.Frag} {F F' : Hp} (s : Same F F') : ∀ {p : P} {v : V}, Rep K F p v → Rep K F' p v
  | _, _, .non => .non
  | _, _, .bl b => .bl b
  | _, _, .int i => .int i
  | _, _, .str x => .str x
  | _, _, .tup h r => .tup (s _ _ h) (RepL.mono s r)
  | _, _, .lst h r => .lst (s _ _ h) (RepL.mono s r)
  | _, _, .ctup h r => .ctup h (RepL.mono s r)
  | _, _, .scr h => .scr (s.seq h)
  | _, _, .dK h r => .dK (rd_mono s h) (RepKV.mono s r)
  | _, _, .dT h r => .dT (rd_mono s h) (RepKV.mono s r)
  | _, _, .ins h r => .ins (s _ _ h) (RepKV.mono s r)
theorem RepL.mono {K : PySem.W.Frag} {F F' : Hp} (s : Same F F') : ∀ {p : List P} {v : List V}, RepL K F p v → RepL K F' p v
  | _, _, .nil => .nil
  | _, _, .cons h r => .cons (Rep.mono s h) (RepL.mono s r)
theorem RepKV.mono {K : PySem.W.Frag} {F F' : Hp} (s : Same F F') : ∀ {κ : Type} {p : List (κ × P)} {v : List (κ × V)}, RepKV K F p v → RepKV K F' p v
  | _, _, _, .nil => .nil
  | _, _, _, .cons h r => .cons (Rep.mono s h) (RepKV.mono s r)
end
section
variable {K : PySem.W.Frag} {F : Hp}
theorem RepL.length : ∀ {ps : List P} {vs : List V}, RepL K F ps vs → vs.length = ps.length
  | _, _, .nil => rfl
  | _, _, .cons _ r => by rw [List.length_cons, List.length_cons, RepL.length r]
theorem RepKV.length {κ : Type} : ∀ {ps : List (κ × P)} {vs : List (κ × V)}, RepKV K F ps vs → vs.length = ps.length
  | _, _, .nil => rfl
  | _, _, .cons _ r => by rw [List.length_cons, List.length_cons, RepKV.length r]
theorem RepL.get : ∀ {ps : List P} {vs : List V} {i : Nat} {p : P}, RepL K F ps vs → ps[i]? = some p → ∃ v, vs[i]? = some v ∧ Rep K F p v
  | _, _, _, _, .nil, h => by cases h
  | _, _, 0, _, .cons h _, e => by
    cases (Option.some.inj e)
    exact ⟨_, rfl, h⟩
  | _, _, i + 1, _, .cons _ r, e => RepL.get (i := i) r e
theorem RepL.getV : ∀ {ps : List P} {vs : List V} {i : Nat} {v : V}, RepL K F ps vs → vs[i]? = some v → ∃ p, ps[i]? = some p ∧ Rep K F p v
  | _, _, _, _, .nil, h => by cases h
  | _, _, 0, _, .cons h _, e => by
    cases (Option.some.inj e)
    exact ⟨_, rfl, h⟩
  | _, _, i + 1, _, .cons _ r, e => RepL.getV (i := i) r e
theorem RepL.append : ∀ {ps qs : List P} {vs ws : List V}, RepL K F ps vs → RepL K F qs ws → RepL K F (ps ++ qs) (vs ++ ws)
  | _, _, _, _, .nil, r => r
  | _, _, _, _, .cons h t, r => .cons h (RepL.append t r)
theorem RepL.set {p : P} {v : V} (h : Rep K F p v) : ∀ {ps : List P} {vs : List V} (i : Nat), RepL K F ps vs → RepL K F (ps.set i p) (vs.set i v)
  | _, _, _, .nil => .nil
  | _, _, 0, .cons _ t => .cons h t
  | _, _, i + 1, .cons q t => .cons q (RepL.set h i t)
theorem RepL.take : ∀ {ps : List P} {vs : List V} (n : Nat), RepL K F ps vs → RepL K F (ps.take n) (vs.take n)
  | _, _, 0, _ => by simp only [List.take_zero]; exact .nil
  | _, _, _ + 1, .nil => .nil
  | _, _, n + 1, .cons q t => .cons q (RepL.take n t)
theorem RepL.drop : ∀ {ps : List P} {vs : List V} (n : Nat), RepL K F ps vs → RepL K F (ps.drop n) (vs.drop n)
  | _, _, 0, r => r
  | _, _, _ + 1, .nil => .nil
  | _, _, n + 1, .cons _ t => RepL.drop n t
theorem RepL.reverse {ps : List P} {vs : List V} (r : RepL K F ps vs) : RepL K F ps.reverse vs.reverse := by
  induction ps generalizing vs with
  | nil => cases r; exact .nil
  | cons p ps ih =>
    cases r with
    | cons h t =>
      rw [List.reverse_cons, List.reverse_cons]
      exact (ih t).append (.cons h .nil)
theorem RepL.none_of {ps : List P} {vs : List V} {i : Nat} (r : RepL K F ps vs) (e : ps[i]? = none) : vs[i]? = none := by
  rw [List.getElem?_eq_none_iff] at e ⊢
  rw [r.length]
  exact e
theorem RepL.snoc {ps : List P} {vs : List V} {p : P} {v : V} (r : RepL K F ps vs) (h : Rep K F p v) : RepL K F (ps ++ [p]) (vs ++ [v]) := r.append (.cons h .nil)

/-! ### dicts -/
def dlook {κ α : Type} [DecidableEq κ] (kvs : List (κ × α)) (k : κ) : Option α := (kvs.find? fun kv => decide (kv.1 = k)).map (·.2)
def dput {κ α : Type} [DecidableEq κ] (kvs : List (κ × α)) (k : κ) (v : α) : List (κ × α) :=
  if (kvs.any fun kv => decide (kv.1 = k)) = true then kvs.map (fun kv => if kv.1 = k then (kv.1, v) else kv) else kvs ++ [(k, v)]
theorem RepKV.look {κ : Type} [DecidableEq κ] (k : κ) : ∀ {ps : List (κ × P)} {vs : List (κ × V)}, RepKV K F ps vs →
    (dlook ps k = none ∧ valV vs k = none) ∨ ∃ p v, dlook ps k = some p ∧ valV vs k = some v ∧ Rep K F p v
  | _, _, .nil => .inl ⟨rfl, rfl⟩
  | _, _, .cons (k := j) (p := p) (v := v) (ps := ps) (vs := vs) h t => by
    by_cases e : j = k
    · refine .inr ⟨p, v, ?_, ?_, h⟩
      · simp [dlook, List.find?_cons, e]
      · simp [valV, List.find?_cons, e]
    · have e1 : dlook ((j, p) :: ps) k = dlook ps k := by simp [dlook, List.find?_cons, e]
      have e2 : valV ((j, v) :: vs) k = valV vs k := by simp [valV, List.find?_cons, e]
      rw [e1, e2]
      exact RepKV.look k t
theorem RepKV.anyE {κ : Type} [DecidableEq κ] (k : κ) : ∀ {ps : List (κ × P)} {vs : List (κ × V)}, RepKV K F ps vs → (ps.any fun kv => decide (kv.1 = k)) = (vs.any fun kv => decide (kv.1 = k))
  | _, _, .nil => rfl
  | _, _, .cons h t => by rw [List.any_cons, List.any_cons, RepKV.anyE k t]
theorem RepKV.append {κ : Type} : ∀ {ps qs : List (κ × P)} {vs ws : List (κ × V)}, RepKV K F ps vs → RepKV K F qs ws → RepKV K F (ps ++ qs) (vs ++ ws)
  | _, _, _, _, .nil, r => r
  | _, _, _, _, .cons h t, r => .cons h (RepKV.append t r)
theorem RepKV.mapk {κ : Type} [DecidableEq κ] (k : κ) {p : P} {v : V} (h : Rep K F p v) : ∀ {ps : List (κ × P)} {vs : List (κ × V)}, RepKV K F ps vs →
    RepKV K F (ps.map fun kv => if kv.1 = k then (kv.1, p) else kv) (vs.map fun kv => if kv.1 = k then (kv.1, v) else kv)
  | _, _, .nil => .nil
  | _, _, .cons (k := j) hh t => by
    rw [List.map_cons, List.map_cons]
    by_cases e : j = k
    · rw [if_pos e, if_pos e]
      exact .cons h (RepKV.mapk k h t)
    · rw [if_neg e, if_neg e]
      exact .cons hh (RepKV.mapk k h t)
theorem RepKV.put {κ : Type} [DecidableEq κ] (k : κ) {p : P} {v : V} (h : Rep K F p v) {ps : List (κ × P)} {vs : List (κ × V)} (r : RepKV K F ps vs) : RepKV K F (dput ps k p) (putK vs k v) := by
  unfold dput putK
  rw [r.anyE k]
  split
  · exact r.mapk k h
  · exact r.append (.cons h .nil)
theorem RepKV.keys {κ : Type} : ∀ {ps : List (κ × P)} {vs : List (κ × V)}, RepKV K F ps vs → vs.map (·.1) = ps.map (·.1)
  | _, _, .nil => rfl
  | _, _, .cons _ t => by rw [List.map_cons, List.map_cons, RepKV.keys t]
theorem RepKV.vals {κ : Type} : ∀ {ps : List (κ × P)} {vs : List (κ × V)}, RepKV K F ps vs → RepL K F (ps.map (·.2)) (vs.map (·.2))
  | _, _, .nil => .nil
  | _, _, .cons h t => .cons h (RepKV.vals t)
end

/-! ### keys -/
def keyP : P → Option Key
  | .int i => some (.inl i)
  | .str x => some (.inr x)
  | _ => none
def keysP : List P → Option (List Key)
  | [] => some []
  | p :: ps => match keyP p, keysP ps with
    | some k, some ks => some (k :: ks)
    | _, _ => none
def tkeyP : P → Option (List Key)
  | .tup xs => keysP xs
  | _ => none
def pkey : Key → P
  | .inl i => .int i
  | .inr x => .str x
theorem rep_key {K : PySem.W.Frag} {F : Hp} {p : P} {v : V} {k : Key} (h : Rep K F p v) (e : keyP p = some k) : v = kV k := by
  cases h with
  | int i => cases e; rfl
  | str x => cases e; rfl
  | _ => cases e
theorem rep_keys {K : PySem.W.Frag} {F : Hp} : ∀ {ps : List P} {vs : List V} {ks : List Key}, RepL K F ps vs → keysP ps = some ks → vs = ks.map kV
  | _, _, _, .nil, e => by cases e; rfl
  | p :: ps, _, ks, .cons h r, e => by
    unfold keysP at e
    cases e1 : keyP p with
    | none => rw [e1] at e; cases e
    | some k =>
      cases e2 : keysP ps with
      | none => rw [e1, e2] at e; cases e
      | some ks' =>
        rw [e1, e2] at e
        cases e
        rw [rep_key h e1, rep_keys r e2]
        rfl
theorem rep_tkey {K : PySem.W.Frag} {F : Hp} {p : P} {v : V} {k : List Key} (h : Rep K F p v) (e : tkeyP p = some k) : ∃ b, v = .ref b ∧ F b = some (.tup (k.map kV)) := by
  cases h with
  | tup ha r =>
    refine ⟨_, rfl, ?_⟩
    rw [ha, rep_keys r e]
  | _ => cases e
theorem rep_pkey {K : PySem.W.Frag} {F : Hp} (k : Key) : Rep K F (pkey k) (kV k) := by
  cases k with
  | inl i => exact .int i
  | inr x => exact .str x

/-! ### owned objects -/
/-- the owned objects' addresses; what else stands, kept aside -/
structure Ads where
  l : List Addr
  g : Hp
def Ads.snoc (ad : Ads) (p : Addr) : Ads := ⟨ad.l ++ [p], ad.g⟩
/-- a value: plain data, or an object that is owned (it may still change) -/
inductive D where
  | p (x : P) | own (i : Nat)
/-- what an owned object holds -/
inductive O where
  | lst (xs : List P) | dK (kvs : List (Key × P)) | dT (kvs : List (List Key × P)) | ins (C : Str) (fs : List (Str × D)) | dead
def O.live : O → Bool
  | .dead => false
  | _ => true

def RelD (K : PySem.W.Frag) (F : Hp) (ad : Ads) : D → V → Prop
  | .p x, v => Rep K F x v
  | .own i, v => ∃ a, ad.l[i]? = some a ∧ v = .ref a
inductive RelF (K : PySem.W.Frag) (F : Hp) (ad : Ads) : List (Str × D) → List (Str × V) → Prop
  | nil : RelF K F ad [] []
  | cons {k : Str} {d : D} {v : V} {ds : List (Str × D)} {vs : List (Str × V)} : RelD K F ad d v → RelF K F ad ds vs → RelF K F ad ((k, d) :: ds) ((k, v) :: vs)
abbrev RelDs (K : PySem.W.Frag) (F : Hp) (ad : Ads) : List D → List V → Prop := Paired (RelD K F ad)

/-- how the heap grows: what stood stands, addresses are added -/
structure Grow (F : Hp) (ad : Ads) (F' : Hp) (ad' : Ads) : Prop where
  same : Same F F'
  pre : ∀ (i : Nat) (a : Addr), ad.l[i]? = some a → ad'.l[i]? = some a
  gs : ad'.g = ad.g
theorem Grow.refl {F : Hp} {ad : Ads} : Grow F ad F ad := ⟨Same.refl F, fun _ _ h => h, rfl⟩
theorem Grow.trans {F F1 F2 : Hp} {a a1 a2 : Ads} (g : Grow F a F1 a1) (h : Grow F1 a1 F2 a2) : Grow F a F2 a2 := ⟨g.same.trans h.same, fun i x e => h.pre i x (g.pre i x e), h.gs.trans g.gs⟩
theorem RelD.mono {K : PySem.W.Frag} {F F' : Hp} {ad ad' : Ads} (g : Grow F ad F' ad') {d : D} {v : V} (h : RelD K F ad d v) : RelD K F' ad' d v := by
  cases d with
  | p x => exact Rep.mono g.same h
  | own i =>
    obtain ⟨a, e, r⟩ := h
    exact ⟨a, g.pre i a e, r⟩
theorem RelF.mono {K : PySem.W.Frag} {F F' : Hp} {ad ad' : Ads} (g : Grow F ad F' ad') {ds : List (Str × D)} {vs : List (Str × V)} (h : RelF K F ad ds vs) : RelF K F' ad' ds vs := by
  induction h with
  | nil => exact .nil
  | cons h _ ih => exact .cons (h.mono g) ih
theorem RelDs.mono {K : PySem.W.Frag} {F F' : Hp} {ad ad' : Ads} (g : Grow F ad F' ad') {ds : List D} {vs : List V} (h : RelDs K F ad ds vs) : RelDs K F' ad' ds vs := Paired.mapP h fun _ _ r => RelD.mono g r

def ObjR (K : PySem.W.Frag) (F : Hp) (ad : Ads) : O → Option HO → Prop
  | .lst xs, h => ∃ vs, h = some (.lst vs) ∧ RepL K F xs vs
  | .dK xs, h => ∃ vs, h = some (.dK vs) ∧ RepKV K F xs vs
  | .dT xs, h => ∃ vs, h = some (.dT vs) ∧ RepKV K F xs vs
  | .ins C fs, h => ∃ dx vs, h = some (.ins (He.ga K C) dx vs) ∧ RelF K F ad fs vs
  | .dead, _ => True
theorem ObjR.mono {K : PySem.W.Frag} {F F' : Hp} {ad ad' : Ads} (g : Grow F ad F' ad') {o : O} {h : Option HO} (r : ObjR K F ad o h) : ObjR K F' ad' o h := by
  cases o with
  | lst xs => obtain ⟨vs, e, r⟩ := r; exact ⟨vs, e, r.mono g.same⟩
  | dK xs => obtain ⟨vs, e, r⟩ := r; exact ⟨vs, e, r.mono g.same⟩
  | dT xs => obtain ⟨vs, e, r⟩ := r; exact ⟨vs, e, r.mono g.same⟩
  | ins C fs => obtain ⟨dx, vs, e, r⟩ := r; exact ⟨dx, vs, e, r.mono g⟩
  | dead => trivial
theorem ObjR.some_of {K : PySem.W.Frag} {F : Hp} {ad : Ads} {o : O} {h : Option HO} (r : ObjR K F ad o h) (l : o.live = true) : ∃ u, h = some u := by
  cases o with
  | lst xs => obtain ⟨vs, e, r⟩ := r; exact ⟨_, e⟩
  | dK xs => obtain ⟨vs, e, r⟩ := r; exact ⟨_, e⟩
  | dT xs => obtain ⟨vs, e, r⟩ := r; exact ⟨_, e⟩
  | ins C fs => obtain ⟨dx, vs, e, r⟩ := r; exact ⟨_, e⟩
  | dead => cases l

/-- the heap H: the still part F, the owned objects os at ad.l, what is kept aside (ad.g) -/
structure Own (K : PySem.W.Frag) (F : Hp) (ad : Ads) (os : List O) (H : Hp) : Prop where
  len : ad.l.length = os.length
  out : ∀ a, (∀ (i : Nat) (o : O), os[i]? = some o → o.live = true → ad.l[i]? ≠ some a) → ad.g a = none → H a = F a
  off : ∀ (i : Nat) (o : O) (a : Addr), os[i]? = some o → o.live = true → ad.l[i]? = some a → F a = none ∧ ad.g a = none
  obj : ∀ (i : Nat) (o : O) (a : Addr), os[i]? = some o → ad.l[i]? = some a → ObjR K F ad o (H a)
  inj : ∀ (i j : Nat) (o u : O) (a : Addr), os[i]? = some o → o.live = true → os[j]? = some u → u.live = true → ad.l[i]? = some a → ad.l[j]? = some a → i = j
  prv : ∀ (a : Addr) (o : HO), ad.g a = some o → H a = some o ∧ F a = none

section
variable {K : PySem.W.Frag} {F : Hp} {ad : Ads} {os : List O} {H : Hp}
theorem Own.same (w : Own K F ad os H) : Same F H := fun a o e => by
  rw [w.out a (fun i u hu hl ha => by
    rw [(w.off i u a hu hl ha).1] at e
    cases e) (by
    cases q : ad.g a with
    | none => rfl
    | some u =>
      rw [(w.prv a u q).2] at e
      cases e)]
  exact e
theorem Own.at_ (w : Own K F ad os H) {i : Nat} {o : O} (h : os[i]? = some o) : ∃ a, ad.l[i]? = some a ∧ ObjR K F ad o (H a) := by
  have hi : i < ad.l.length := by
    rw [w.len]
    exact (List.getElem?_eq_some_iff.mp h).1
  exact ⟨ad.l[i], List.getElem?_eq_getElem hi, w.obj i o _ h (List.getElem?_eq_getElem hi)⟩
theorem Own.none_ (w : Own K F ad os H) {a : Addr} (h : H a = none) : F a = none ∧ (∀ (i : Nat) (o : O), os[i]? = some o → o.live = true → ad.l[i]? ≠ some a) ∧ ad.g a = none := by
  have q : ∀ (i : Nat) (o : O), os[i]? = some o → o.live = true → ad.l[i]? ≠ some a := fun i o ho hl ha => by
    obtain ⟨u, e⟩ := (w.obj i o a ho ha).some_of hl
    rw [h] at e
    cases e
  have g : ad.g a = none := by
    cases e : ad.g a with
    | none => rfl
    | some u =>
      rw [(w.prv a u e).1] at h
      cases h
  exact ⟨(w.out a q g).symm.trans h, q, g⟩
theorem same_new {F : Hp} {p : Addr} {o : HO} (h : F p = none) : Same F (upd F p o) := fun b x e => by
  rw [upd_ne (ne_of_none e h)]
  exact e
theorem grow_new {F : Hp} {ad : Ads} {p : Addr} {o : HO} (h : F p = none) : Grow F ad (upd F p o) ad := ⟨same_new h, fun _ _ e => e, rfl⟩
theorem grow_own {F : Hp} {ad : Ads} {p : Addr} : Grow F ad F (ad.snoc p) := ⟨Same.refl F, fun i a e => by
  show (ad.l ++ [p])[i]? = some a
  rw [List.getElem?_append_left (List.getElem?_eq_some_iff.mp e).1]
  exact e, rfl⟩
theorem RelF.rel {l : List Addr} {g g' : Hp} {fs : List (Str × D)} {vs : List (Str × V)} (r : RelF K F ⟨l, g⟩ fs vs) : RelF K F ⟨l, g'⟩ fs vs := by
  induction r with
  | nil => exact .nil
  | @cons k d v ds vs h _ ih =>
    refine .cons ?_ ih
    cases d <;> exact h
theorem ObjR.rel {l : List Addr} {g g' : Hp} {o : O} {h : Option HO} (r : ObjR K F ⟨l, g⟩ o h) : ObjR K F ⟨l, g'⟩ o h := by
  cases o with
  | ins C fs =>
    obtain ⟨dx, vs, h1, r⟩ := r
    exact ⟨dx, vs, h1, r.rel⟩
  | _ => exact r
/-- a new object that will not change -/
theorem Own.new (w : Own K F ad os H) {p : Addr} {o : HO} (h : H p = none) : Own K (upd F p o) ad os (upd H p o) := by
  obtain ⟨hF, hn, hg⟩ := w.none_ h
  refine ⟨w.len, fun a q qg => ?_, fun i u a hu hl ha => ?_, fun i u a hu ha => ?_, w.inj, fun a u e => ?_⟩
  · by_cases e : a = p
    · subst e
      rw [upd_same, upd_same]
    · rw [upd_ne e, upd_ne e]
      exact w.out a q qg
  · have e : a ≠ p := fun z => hn i u hu hl (z ▸ ha)
    rw [upd_ne e]
    exact w.off i u a hu hl ha
  · cases hl : u.live with
    | true =>
      have e : a ≠ p := fun z => hn i u hu hl (z ▸ ha)
      rw [upd_ne e]
      exact (w.obj i u a hu ha).mono (grow_new hF)
    | false =>
      cases u with
      | dead => trivial
      | _ => cases hl
  · have ne : a ≠ p := fun z => by rw [z, hg] at e; cases e
    rw [upd_ne ne, upd_ne ne]
    exact w.prv a u e
theorem cut_snoc {α : Type} {os : List α} {o : α} {i : Nat} {x : α} (e : (os ++ [o])[i]? = some x) : (os[i]? = some x ∧ i < os.length) ∨ (i = os.length ∧ x = o) := by
  by_cases hi : i < os.length
  · rw [List.getElem?_append_left hi] at e
    exact .inl ⟨e, hi⟩
  · have hi2 : i = os.length := by
      have := (List.getElem?_eq_some_iff.mp e).1
      rw [List.length_append] at this
      simp at this
      omega
    subst hi2
    rw [List.getElem?_concat_length] at e
    exact .inr ⟨rfl, (Option.some.inj e).symm⟩
/-- a new owned object -/
theorem Own.born (w : Own K F ad os H) {p : Addr} {u : HO} {o : O} (h : H p = none) (ol : o.live = true) (r : ObjR K F (ad.snoc p) o (some u)) : Own K F (ad.snoc p) (os ++ [o]) (upd H p u) := by
  obtain ⟨hF, hn, hg⟩ := w.none_ h
  have ca : ∀ {i : Nat}, i < os.length → (ad.l ++ [p])[i]? = ad.l[i]? := fun {i} hi => List.getElem?_append_left (by rw [w.len]; exact hi)
  have cp : (ad.l ++ [p])[os.length]? = some p := by rw [← w.len, List.getElem?_concat_length]
  refine ⟨by show (ad.l ++ [p]).length = _; rw [List.length_append, List.length_append, w.len]; rfl, fun a q qg => ?_, fun i x a hx hl ha => ?_, fun i x a hx ha => ?_, fun i j x y a hx hl hy hl2 ha hb => ?_, fun a v e => ?_⟩
  · have e : a ≠ p := fun z => q os.length o (List.getElem?_concat_length) ol (z ▸ cp)
    rw [upd_ne e]
    exact w.out a (fun i x hx hl ha => q i x (by rw [List.getElem?_append_left (List.getElem?_eq_some_iff.mp hx).1]; exact hx) hl (by show (ad.l ++ [p])[i]? = some a; rw [ca (List.getElem?_eq_some_iff.mp hx).1]; exact ha)) qg
  · have ha' : (ad.l ++ [p])[i]? = some a := ha
    rcases cut_snoc hx with ⟨hx, hi⟩ | ⟨hi, hx⟩
    · rw [ca hi] at ha'
      exact w.off i x a hx hl ha'
    · rw [hi, cp] at ha'
      cases ha'
      exact ⟨hF, hg⟩
  · have ha' : (ad.l ++ [p])[i]? = some a := ha
    rcases cut_snoc hx with ⟨hx, hi⟩ | ⟨hi, hx⟩
    · rw [ca hi] at ha'
      cases hl : x.live with
      | true =>
        have e : a ≠ p := fun z => hn i x hx hl (z ▸ ha')
        rw [upd_ne e]
        exact (w.obj i x a hx ha').mono grow_own
      | false =>
        cases x with
        | dead => trivial
        | _ => cases hl
    · rw [hi, cp] at ha'
      cases ha'
      rw [upd_same, hx]
      exact r
  · have ha' : (ad.l ++ [p])[i]? = some a := ha
    have hb' : (ad.l ++ [p])[j]? = some a := hb
    rcases cut_snoc hx with ⟨hx1, hi⟩ | ⟨hi, hx1⟩
    · rcases cut_snoc hy with ⟨hy1, hj⟩ | ⟨hj, hy1⟩
      · rw [ca hi] at ha'
        rw [ca hj] at hb'
        exact w.inj i j x y a hx1 hl hy1 hl2 ha' hb'
      · rw [hj, cp] at hb'
        cases hb'
        rw [ca hi] at ha'
        exact absurd ha' (hn i x hx1 hl)
    · rcases cut_snoc hy with ⟨hy1, hj⟩ | ⟨hj, hy1⟩
      · rw [hi, cp] at ha'
        cases ha'
        rw [ca hj] at hb'
        exact absurd hb' (hn j y hy1 hl2)
      · rw [hi, hj]
  · have ne : a ≠ p := fun z => by
      have e' : ad.g a = some v := e
      rw [z, hg] at e'
      cases e'
    rw [upd_ne ne]
    exact w.prv a v e
theorem set_at {α : Type} {os : List α} {i j : Nat} {o x : α} (e : (os.set i o)[j]? = some x) : (j = i ∧ x = o ∧ i < os.length) ∨ (j ≠ i ∧ os[j]? = some x) := by
  by_cases h : j = i
  · subst h
    have hl : j < os.length := by
      have := (List.getElem?_eq_some_iff.mp e).1
      rw [List.length_set] at this
      exact this
    rw [List.getElem?_set_self hl] at e
    exact .inl ⟨rfl, (Option.some.inj e).symm, hl⟩
  · rw [List.getElem?_set_ne (Ne.symm h)] at e
    exact .inr ⟨h, e⟩
/-- an owned object is written -/
theorem Own.write (w : Own K F ad os H) {i : Nat} {a : Addr} {o x : O} {u : HO} (hx : os[i]? = some x) (hxl : x.live = true) (ha : ad.l[i]? = some a) (ol : o.live = true) (r : ObjR K F ad o (some u)) : Own K F ad (os.set i o) (upd H a u) := by
  have ne : ∀ {j : Nat} {y : O} {b : Addr}, j ≠ i → os[j]? = some y → y.live = true → ad.l[j]? = some b → b ≠ a := fun {j y b} hj hy hl hb z => hj (w.inj j i y x a hy hl hx hxl (z ▸ hb) ha)
  refine ⟨by rw [List.length_set, w.len], fun b q qg => ?_, fun j y b hy hl hb => ?_, fun j y b hy hb => ?_, fun j k y z b hy hl hz hl2 hb hc => ?_, fun b v e => ?_⟩
  · have e : b ≠ a := fun z => q i o (List.getElem?_set_self (List.getElem?_eq_some_iff.mp hx).1) ol (z ▸ ha)
    rw [upd_ne e]
    refine w.out b (fun j y hy hl hb => ?_) qg
    by_cases hj : j = i
    · subst hj
      rw [ha] at hb
      cases hb
      exact e rfl
    · exact q j y (by rw [List.getElem?_set_ne (Ne.symm hj)]; exact hy) hl hb
  · rcases set_at hy with ⟨rfl, rfl, _⟩ | ⟨hj, hy⟩
    · exact w.off j x b hx hxl hb
    · exact w.off j y b hy hl hb
  · rcases set_at hy with ⟨rfl, rfl, _⟩ | ⟨hj, hy⟩
    · rw [ha] at hb
      cases hb
      rw [upd_same]
      exact r
    · cases hl : y.live with
      | true =>
        rw [upd_ne (ne hj hy hl hb)]
        exact w.obj j y b hy hb
      | false =>
        cases y with
        | dead => trivial
        | _ => cases hl
  · have old : ∀ {m : Nat} {v : O}, (os.set i o)[m]? = some v → v.live = true → ∃ v', os[m]? = some v' ∧ v'.live = true := fun {m v} hv hl => by
      rcases set_at hv with ⟨rfl, rfl, _⟩ | ⟨_, hv⟩
      · exact ⟨x, hx, hxl⟩
      · exact ⟨v, hv, hl⟩
    obtain ⟨y', hy', hl'⟩ := old hy hl
    obtain ⟨z', hz', hl2'⟩ := old hz hl2
    exact w.inj j k y' z' b hy' hl' hz' hl2' hb hc
  · have ne2 : b ≠ a := fun z => by
      rw [z, (w.off i x a hx hxl ha).2] at e
      cases e
    rw [upd_ne ne2]
    exact w.prv b v e
/-- an owned object becomes still -/
theorem Own.freeze (w : Own K F ad os H) {i : Nat} {a : Addr} {x : O} {u : HO} (hx : os[i]? = some x) (hxl : x.live = true) (ha : ad.l[i]? = some a) (hu : H a = some u) : Own K (upd F a u) ad (os.set i .dead) H := by
  obtain ⟨hF, hg⟩ := w.off i x a hx hxl ha
  have g : Grow F ad (upd F a u) ad := grow_new hF
  have ne : ∀ {j : Nat} {y : O} {b : Addr}, j ≠ i → os[j]? = some y → y.live = true → ad.l[j]? = some b → b ≠ a := fun {j y b} hj hy hl hb z => hj (w.inj j i y x a hy hl hx hxl (z ▸ hb) ha)
  have old : ∀ {m : Nat} {v : O}, (os.set i .dead)[m]? = some v → v.live = true → m ≠ i ∧ os[m]? = some v := fun {m v} hv hl => by
    rcases set_at hv with ⟨rfl, rfl, _⟩ | ⟨hm, hv⟩
    · cases hl
    · exact ⟨hm, hv⟩
  refine ⟨by rw [List.length_set, w.len], fun b q qg => ?_, fun j y b hy hl hb => ?_, fun j y b hy hb => ?_, fun j k y z b hy hl hz hl2 hb hc => ?_, fun b v e => ?_⟩
  · by_cases e : b = a
    · subst e
      rw [upd_same]
      exact hu
    · rw [upd_ne e]
      refine w.out b (fun j y hy hl hb => ?_) qg
      by_cases hj : j = i
      · subst hj
        rw [ha] at hb
        cases hb
        exact e rfl
      · exact q j y (by rw [List.getElem?_set_ne (Ne.symm hj)]; exact hy) hl hb
  · obtain ⟨hj, hy⟩ := old hy hl
    rw [upd_ne (ne hj hy hl hb)]
    exact w.off j y b hy hl hb
  · rcases set_at hy with ⟨rfl, rfl, _⟩ | ⟨hj, hy⟩
    · trivial
    · exact (w.obj j y b hy hb).mono g
  · obtain ⟨hj, hy⟩ := old hy hl
    obtain ⟨hk, hz⟩ := old hz hl2
    exact w.inj j k y z b hy hl hz hl2 hb hc
  · have ne2 : b ≠ a := fun z => by
      rw [z, hg] at e
      cases e
    rw [upd_ne ne2]
    exact w.prv b v e
/-- a new object kept aside -/
theorem Own.hide (w : Own K F ad os H) {p : Addr} {o : HO} (h : H p = none) : Own K F ⟨ad.l, upd ad.g p o⟩ os (upd H p o) := by
  obtain ⟨hF, hn, hg⟩ := w.none_ h
  have npa : ∀ {i : Nat} {u : O} {a : Addr}, os[i]? = some u → u.live = true → ad.l[i]? = some a → a ≠ p := fun hu hl ha z => hn _ _ hu hl (z ▸ ha)
  refine ⟨w.len, fun a q qg => ?_, fun i u a hu hl ha => ?_, fun i u a hu ha => ?_, w.inj, fun a u e => ?_⟩
  · have e : a ≠ p := fun z => by
      have qg' : upd ad.g p o a = none := qg
      rw [z, upd_same] at qg'
      cases qg'
    rw [upd_ne e]
    refine w.out a q ?_
    have qg' : upd ad.g p o a = none := qg
    rw [upd_ne e] at qg'
    exact qg'
  · obtain ⟨h1, h2⟩ := w.off i u a hu hl ha
    exact ⟨h1, by show upd ad.g p o a = none; rw [upd_ne (npa hu hl ha)]; exact h2⟩
  · cases hl : u.live with
    | true =>
      rw [upd_ne (npa hu hl ha)]
      exact ObjR.rel (g := ad.g) (w.obj i u a hu ha)
    | false =>
      cases u with
      | dead => trivial
      | _ => cases hl
  · have e' : upd ad.g p o a = some u := e
    by_cases z : a = p
    · rw [z] at e' ⊢
      rw [upd_same] at e' ⊢
      exact ⟨e', hF⟩
    · rw [upd_ne z] at e' ⊢
      exact w.prv a u e'
/-- it changes -/
theorem Own.rehide (w : Own K F ad os H) {p : Addr} {o u : HO} (h : ad.g p = some u) : Own K F ⟨ad.l, upd ad.g p o⟩ os (upd H p o) := by
  have hF := (w.prv p u h).2
  have npa : ∀ {i : Nat} {x : O} {a : Addr}, os[i]? = some x → x.live = true → ad.l[i]? = some a → a ≠ p := fun hu hl ha z => by
    have := (w.off _ _ _ hu hl ha).2
    rw [z, h] at this
    cases this
  refine ⟨w.len, fun a q qg => ?_, fun i u a hu hl ha => ?_, fun i u a hu ha => ?_, w.inj, fun a u e => ?_⟩
  · have e : a ≠ p := fun z => by
      have qg' : upd ad.g p o a = none := qg
      rw [z, upd_same] at qg'
      cases qg'
    rw [upd_ne e]
    refine w.out a q ?_
    have qg' : upd ad.g p o a = none := qg
    rw [upd_ne e] at qg'
    exact qg'
  · obtain ⟨h1, h2⟩ := w.off i u a hu hl ha
    exact ⟨h1, by show upd ad.g p o a = none; rw [upd_ne (npa hu hl ha)]; exact h2⟩
  · cases hl : u.live with
    | true =>
      rw [upd_ne (npa hu hl ha)]
      exact ObjR.rel (g := ad.g) (w.obj i u a hu ha)
    | false =>
      cases u with
      | dead => trivial
      | _ => cases hl
  · have e' : upd ad.g p o a = some u := e
    by_cases z : a = p
    · rw [z] at e' ⊢
      rw [upd_same] at e' ⊢
      exact ⟨e', hF⟩
    · rw [upd_ne z] at e' ⊢
      exact w.prv a u e'
/-- it comes to the still part, or is forgotten: what is kept aside is g again -/
theorem Own.unhide (w : Own K F ad os H) {g : Hp} {p : Addr} {o : HO} (e : ad.g = upd g p o) (hg : g p = none) : Own K (upd F p o) ⟨ad.l, g⟩ os H := by
  have hp : ad.g p = some o := by rw [e, upd_same]
  obtain ⟨hH, hF⟩ := w.prv p o hp
  have npa : ∀ {i : Nat} {x : O} {a : Addr}, os[i]? = some x → x.live = true → ad.l[i]? = some a → a ≠ p := fun hu hl ha z => by
    have := (w.off _ _ _ hu hl ha).2
    rw [z, hp] at this
    cases this
  have gr : Grow F ad (upd F p o) ad := grow_new hF
  refine ⟨w.len, fun a q qg => ?_, fun i u a hu hl ha => ?_, fun i u a hu ha => ?_, w.inj, fun a u ee => ?_⟩
  · by_cases z : a = p
    · rw [z, upd_same]
      exact hH
    · rw [upd_ne z]
      exact w.out a q (by rw [e, upd_ne z]; exact qg)
  · have ne := npa hu hl ha
    obtain ⟨h1, h2⟩ := w.off i u a hu hl ha
    rw [e, upd_ne ne] at h2
    exact ⟨by rw [upd_ne ne]; exact h1, h2⟩
  · exact ObjR.rel (g := ad.g) ((w.obj i u a hu ha).mono gr)
  · have ee' : g a = some u := ee
    have ne : a ≠ p := fun z => by
      rw [z, hg] at ee'
      cases ee'
    rw [upd_ne ne]
    exact w.prv a u (by rw [e, upd_ne ne]; exact ee')
end

/-! ### results -/
/-- an exception: its class by name, its own fields -/
structure Exn where
  cls : Str
  fs : Option (List (Str × P))
inductive Res (α : Type) where
  | ok (a : α) (os : List O) | ex (x : Exn) (os : List O) | bad
abbrev M (α : Type) := List O → Res α
abbrev Sl := List (Option D)
def M.pure {α : Type} (a : α) : M α := fun os => .ok a os
def M.bad {α : Type} : M α := fun _ => .bad
def Res.bind {α β : Type} (r : Res α) (f : α → M β) : Res β := match r with
  | .ok a os => f a os
  | .ex x os => .ex x os
  | .bad => .bad
def M.bind {α β : Type} (m : M α) (f : α → M β) : M β := fun os => (m os).bind f
@[simp] theorem bind_ok {α β : Type} (a : α) (os : List O) (f : α → M β) : (Res.ok a os).bind f = f a os := (rfl)
@[simp] theorem bind_ex {α β : Type} (x : Exn) (os : List O) (f : α → M β) : (Res.ex x os : Res α).bind f = .ex x os := (rfl)
@[simp] theorem bind_bad {α β : Type} (f : α → M β) : (Res.bad : Res α).bind f = .bad := (rfl)
theorem M.bind_def {α β : Type} (m : M α) (f : α → M β) (os : List O) : M.bind m f os = (m os).bind f := rfl
theorem M.pure_def {α : Type} (a : α) (os : List O) : M.pure a os = .ok a os := rfl

/-- slots: the names of a def; none: nothing is known of it -/
structure SlR (K : PySem.W.Frag) (F : Hp) (ad : Ads) (S : Sl) (σ : L2.St) : Prop where
  len : S.length ≤ σ.length
  at_ : ∀ (i : Nat) (d : D), S[i]? = some (some d) → ∃ v, σ[i]? = some (some v) ∧ RelD K F ad d v
theorem SlR.mono {K : PySem.W.Frag} {F F' : Hp} {ad ad' : Ads} (g : Grow F ad F' ad') {S : Sl} {σ : L2.St} (h : SlR K F ad S σ) : SlR K F' ad' S σ :=
  ⟨h.len, fun i d e => let ⟨v, e1, r⟩ := h.at_ i d e; ⟨v, e1, r.mono g⟩⟩
theorem SlR.set {K : PySem.W.Frag} {F : Hp} {ad : Ads} {S : Sl} {σ : L2.St} {i : Nat} {d : D} {v : V} (h : SlR K F ad S σ) (r : RelD K F ad d v) : SlR K F ad (S.set i (some d)) (σ.set i (some v)) := by
  refine ⟨by rw [List.length_set, List.length_set]; exact h.len, fun j e hj => ?_⟩
  by_cases q : j = i
  · subst q
    have hl : j < S.length := by
      have := (List.getElem?_eq_some_iff.mp hj).1
      rw [List.length_set] at this
      exact this
    rw [List.getElem?_set_self hl] at hj
    cases (Option.some.inj (Option.some.inj hj))
    exact ⟨v, List.getElem?_set_self (Nat.lt_of_lt_of_le hl h.len), r⟩
  · rw [List.getElem?_set_ne (Ne.symm q)] at hj
    rw [List.getElem?_set_ne (Ne.symm q)]
    exact h.at_ j e hj
/-- the class of an exception and what lies in its own dict -/
def RelX (K : PySem.W.Frag) (F : Hp) (H : Hp) (x : Exn) (cls : Value) (dd : Option Addr) : Prop := cls = .ref (He.ga K x.cls) ∧ match x.fs with
  | none => dd = none
  | some fs => ∃ d vs, dd = some d ∧ H d = some (.xd vs) ∧ RepKV K F fs vs

/-- what is wanted of a result: Q of a value, W of an exception -/
def OutE (K : PySem.W.Frag) (W : XK) (F : Hp) (ad : Ads) (Q : VK) : Res D → Prop
  | .ok d os => ∀ F' ad' H' v, Grow F ad F' ad' → Own K F' ad' os H' → RelD K F' ad' d v → Q v H'
  | .ex x os => ∀ F' ad' H' cls dd, Grow F ad F' ad' → Own K F' ad' os H' → RelX K F' H' x cls dd → W cls dd H'
  | .bad => False
def OutL (K : PySem.W.Frag) (W : XK) (F : Hp) (ad : Ads) (Q : List V → Hp → Prop) : Res (List D) → Prop
  | .ok d os => ∀ F' ad' H' v, Grow F ad F' ad' → Own K F' ad' os H' → RelDs K F' ad' d v → Q v H'
  | .ex x os => ∀ F' ad' H' cls dd, Grow F ad F' ad' → Own K F' ad' os H' → RelX K F' H' x cls dd → W cls dd H'
  | .bad => False
def OutB (K : PySem.W.Frag) (W : XK) (F : Hp) (ad : Ads) (Q : Bool → Hp → Prop) : Res Bool → Prop
  | .ok b os => ∀ F' ad' H', Grow F ad F' ad' → Own K F' ad' os H' → Q b H'
  | .ex x os => ∀ F' ad' H' cls dd, Grow F ad F' ad' → Own K F' ad' os H' → RelX K F' H' x cls dd → W cls dd H'
  | .bad => False
theorem OutE.grow {K : PySem.W.Frag} {W : XK} {F F1 : Hp} {ad ad1 : Ads} {Q : VK} (g : Grow F ad F1 ad1) {r : Res D} (h : OutE K W F ad Q r) : OutE K W F1 ad1 Q r := by
  cases r with
  | ok d os => exact fun F' ad' H' v g' => h F' ad' H' v (g.trans g')
  | ex x os => exact fun F' ad' H' cls dd g' => h F' ad' H' cls dd (g.trans g')
  | bad => exact h
theorem OutL.grow {K : PySem.W.Frag} {W : XK} {F F1 : Hp} {ad ad1 : Ads} {Q : List V → Hp → Prop} (g : Grow F ad F1 ad1) {r : Res (List D)} (h : OutL K W F ad Q r) : OutL K W F1 ad1 Q r := by
  cases r with
  | ok d os => exact fun F' ad' H' v g' => h F' ad' H' v (g.trans g')
  | ex x os => exact fun F' ad' H' cls dd g' => h F' ad' H' cls dd (g.trans g')
  | bad => exact h
theorem OutB.grow {K : PySem.W.Frag} {W : XK} {F F1 : Hp} {ad ad1 : Ads} {Q : Bool → Hp → Prop} (g : Grow F ad F1 ad1) {r : Res Bool} (h : OutB K W F ad Q r) : OutB K W F1 ad1 Q r := by
  cases r with
  | ok d os => exact fun F' ad' H' g' => h F' ad' H' (g.trans g')
  | ex x os => exact fun F' ad' H' cls dd g' => h F' ad' H' cls dd (g.trans g')
  | bad => exact h
/-- a result that comes at once -/
theorem OutE.now {K : PySem.W.Frag} {W : XK} {F : Hp} {ad : Ads} {os : List O} {H : Hp} {Q : VK} {d : D} {v : V} (h : OutE K W F ad Q (.ok d os)) (w : Own K F ad os H) (r : RelD K F ad d v) : Q v H := h F ad H v Grow.refl w r
end DL
/-! DLb: the readings of data functions, expressions. -/
namespace DL
open PySem PySem.Spec
open PyProof.Rows L2

/-! ### readings -/
def TD (K : PySem.W.Frag) (W : XK) (f : Sl → M D) : TE := fun σ H Q => ∃ S os F ad, SlR K F ad S σ ∧ Own K F ad os H ∧ OutE K W F ad Q (f S os)
def TDL (K : PySem.W.Frag) (W : XK) (f : Sl → M (List D)) : TA := fun σ H Q => ∃ S os F ad, SlR K F ad S σ ∧ Own K F ad os H ∧ OutL K W F ad Q (f S os)
def TDB (K : PySem.W.Frag) (W : XK) (f : Sl → M Bool) : TT := fun σ H Q => ∃ S os F ad, SlR K F ad S σ ∧ Own K F ad os H ∧ OutB K W F ad Q (f S os)
/-- a new list -/
def OutF (K : PySem.W.Frag) (W : XK) (F : Hp) (ad : Ads) (Q : VK) : Res (List P) → Prop
  | .ok xs os => ∀ F' ad' H' p vs, Grow F ad F' ad' → Own K F' ad' os H' → H' p = none → RepL K F' xs vs → Q (.ref p) (upd H' p (.lst vs))
  | .ex x os => ∀ F' ad' H' cls dd, Grow F ad F' ad' → Own K F' ad' os H' → RelX K F' H' x cls dd → W cls dd H'
  | .bad => False
theorem OutF.grow {K : PySem.W.Frag} {W : XK} {F F1 : Hp} {ad ad1 : Ads} {Q : VK} (g : Grow F ad F1 ad1) {r : Res (List P)} (h : OutF K W F ad Q r) : OutF K W F1 ad1 Q r := by
  cases r with
  | ok d os => exact fun F' ad' H' p vs g' => h F' ad' H' p vs (g.trans g')
  | ex x os => exact fun F' ad' H' cls dd g' => h F' ad' H' cls dd (g.trans g')
  | bad => exact h
def TDF (K : PySem.W.Frag) (W : XK) (f : Sl → M (List P)) : TE := fun σ H Q => ∃ S os F ad, SlR K F ad S σ ∧ Own K F ad os H ∧ OutF K W F ad Q (f S os)
abbrev DE (X : Cx) (W : XK) (e : Expr) (f : Sl → M D) : Prop := PE X e (TD X.K W f)
abbrev DF (X : Cx) (W : XK) (e : Expr) (f : Sl → M (List P)) : Prop := PE X e (TDF X.K W f)
abbrev DA (X : Cx) (W : XK) (es : List Expr) (f : Sl → M (List D)) : Prop := PA X es (TDL X.K W f)
abbrev DT (X : Cx) (W : XK) (e : Expr) (f : Sl → M Bool) : Prop := PT X e (TDB X.K W f)
abbrev DW (X : Cx) (W : XK) (e : Expr) (f : Sl → M Bool) : Prop := PW X e (TDB X.K W f)

theorem pe_imp {X : Cx} {e : Expr} {t t' : TE} (h : PE X e t) (q : ∀ σ H Q, t' σ H Q → t σ H Q) : PE X e t' := ⟨fun pins s σ H Q I r => h.run pins s σ H Q I (q σ H Q r)⟩
theorem pt_imp {X : Cx} {e : Expr} {t t' : TT} (h : PT X e t) (q : ∀ σ H Q, t' σ H Q → t σ H Q) : PT X e t' := ⟨fun pins s σ H Q I r => h.run pins s σ H Q I (q σ H Q r)⟩
theorem pw_imp {X : Cx} {e : Expr} {t t' : TT} (h : PW X e t) (q : ∀ σ H Q, t' σ H Q → t σ H Q) : PW X e t' := ⟨fun w pins s σ H Q I r => h.run w pins s σ H Q I (q σ H Q r)⟩
theorem pa_imp {X : Cx} {e : List Expr} {t t' : TA} (h : PA X e t) (q : ∀ σ H Q, t' σ H Q → t σ H Q) : PA X e t' := ⟨fun pos pins s σ H Q I r => h.run pos pins s σ H Q I (q σ H Q r)⟩

section
variable {K : PySem.W.Frag} {W : XK} {F : Hp} {ad : Ads} {Q : VK}
/-- one result after another -/
theorem out_bind {α : Type} {r : Res D} {f : D → M D} (h : OutE K W F ad Q (r.bind f)) :
    OutE K W F ad (fun x H1 => ∃ d os F' ad', r = .ok d os ∧ Grow F ad F' ad' ∧ Own K F' ad' os H1 ∧ RelD K F' ad' d x ∧ OutE K W F' ad' Q (f d os)) r := by
  cases r with
  | ok d os => exact fun F' ad' H' v g w r => ⟨d, os, F', ad', rfl, g, w, r, h.grow g⟩
  | ex x os => exact h
  | bad => exact h
end

/-! ### names and constants -/
def var (i : Nat) : Sl → M D := fun S os => match S[i]? with
  | some (some d) => .ok d os
  | _ => .bad
def cst (p : P) : Sl → M D := fun _ os => .ok (.p p) os
section
variable {X : Cx} {W : XK} {pos : Pos}
theorem de_var {i : Nat} {e : Expr} (h : PE X e (tVar i)) : DE X W e (var i) := pe_imp h fun σ H Q ⟨S, os, F, ad, sl, w, q⟩ => by
  unfold var at q
  cases e : S[i]? with
  | none => rw [e] at q; exact q.elim
  | some d =>
    cases d with
    | none => rw [e] at q; exact q.elim
    | some d =>
      rw [e] at q
      obtain ⟨v, h1, r⟩ := sl.at_ i d e
      exact ⟨v, h1, q.now w r⟩
theorem de_cst {e : Expr} {p : P} {v : V} (h : PE X e (tC v)) (r : ∀ F, Rep X.K F p v) : DE X W e (cst p) := pe_imp h fun σ H Q ⟨S, os, F, ad, sl, w, q⟩ => OutE.now q w (r F)
theorem de_int {i j} : DE X W (.Constant (.int i) j pos) (cst (.int i)) := de_cst pe_int fun _ => .int i
theorem de_bl {b j} : DE X W (.Constant (.bool b) j pos) (cst (.bl b)) := de_cst pe_bl fun _ => .bl b
theorem de_non {j} : DE X W (.Constant .none j pos) (cst .non) := de_cst pe_non fun _ => .non
theorem de_str {x j} : DE X W (.Constant (.str x) j pos) (cst (.str x)) := de_cst pe_str fun _ => .str x
/-- a module's int or text -/
theorem de_gint {x : Str} {i : Int} (hg : Gl X x) (hm : ∃ t, X.mg x = some (.int i t)) (hd : (x == ("__debug__" : Str)) = false := by decide) : DE X W (.Name x pos) (cst (.int i)) :=
  let ⟨t, h⟩ := hm
  de_cst (pe_glob (v := .int i) hg h ⟨t, rfl⟩ hd) fun _ => .int i
theorem de_gstr {x z : Str} (hg : Gl X x) (hm : ∃ t, X.mg x = some (.str z t)) (hd : (x == ("__debug__" : Str)) = false := by decide) : DE X W (.Name x pos) (cst (.str z)) :=
  let ⟨t, h⟩ := hm
  de_cst (pe_glob (v := .str z) hg h ⟨t, rfl⟩ hd) fun _ => .str z
end

/-! ### operations by values -/
def Op1 (K : PySem.W.Frag) (r : V → Hp → VK → Prop) (g : D → M D) : Prop := ∀ (W : XK) (F : Hp) (ad : Ads) (os : List O) (H : Hp) (x : V) (d : D) (Q : VK), Own K F ad os H → RelD K F ad d x → OutE K W F ad Q (g d os) → r x H Q
def Op2 (K : PySem.W.Frag) (r : R2) (g : D → D → M D) : Prop := ∀ (W : XK) (F : Hp) (ad : Ads) (os : List O) (H : Hp) (x y : V) (d e : D) (Q : VK), Own K F ad os H → RelD K F ad d x → RelD K F ad e y → OutE K W F ad Q (g d e os) → r x y H Q
def OpF2 (K : PySem.W.Frag) (r : R2) (g : D → D → M (List P)) : Prop := ∀ (W : XK) (F : Hp) (ad : Ads) (os : List O) (H : Hp) (x y : V) (d e : D) (Q : VK), Own K F ad os H → RelD K F ad d x → RelD K F ad e y → OutF K W F ad Q (g d e os) → r x y H Q
def OpN (K : PySem.W.Frag) (r : List V → Hp → VK → Prop) (g : List D → M D) : Prop := ∀ (W : XK) (F : Hp) (ad : Ads) (os : List O) (H : Hp) (xs : List V) (ds : List D) (Q : VK), Own K F ad os H → RelDs K F ad ds xs → OutE K W F ad Q (g ds os) → r xs H Q
def OpFN (K : PySem.W.Frag) (r : List V → Hp → VK → Prop) (g : List D → M (List P)) : Prop := ∀ (W : XK) (F : Hp) (ad : Ads) (os : List O) (H : Hp) (xs : List V) (ds : List D) (Q : VK), Own K F ad os H → RelDs K F ad ds xs → OutF K W F ad Q (g ds os) → r xs H Q
def OpM (K : PySem.W.Frag) (r : V → List V → Hp → VK → Prop) (g : D → List D → M D) : Prop := ∀ (W : XK) (F : Hp) (ad : Ads) (os : List O) (H : Hp) (x : V) (xs : List V) (d : D) (ds : List D) (Q : VK), Own K F ad os H → RelD K F ad d x → RelDs K F ad ds xs → OutE K W F ad Q (g d ds os) → r x xs H Q
def OpFM (K : PySem.W.Frag) (r : V → List V → Hp → VK → Prop) (g : D → List D → M (List P)) : Prop := ∀ (W : XK) (F : Hp) (ad : Ads) (os : List O) (H : Hp) (x : V) (xs : List V) (d : D) (ds : List D) (Q : VK), Own K F ad os H → RelD K F ad d x → RelDs K F ad ds xs → OutF K W F ad Q (g d ds os) → r x xs H Q

def op1 {α : Type} (g : D → M α) (fa : Sl → M D) : Sl → M α := fun S os => (fa S os).bind g
def op2 {α : Type} (g : D → D → M α) (fa fb : Sl → M D) : Sl → M α := fun S os => (fa S os).bind fun d os => (fb S os).bind fun e => g d e
def opN {α : Type} (g : List D → M α) (fa : Sl → M (List D)) : Sl → M α := fun S os => (fa S os).bind g
def nilA : Sl → M (List D) := fun _ os => .ok [] os
def consA (fa : Sl → M D) (fr : Sl → M (List D)) : Sl → M (List D) := fun S os => (fa S os).bind fun d os => (fr S os).bind fun ds os => .ok (d :: ds) os

/-- a reading ahead of another -/
theorem td_bind {K : PySem.W.Frag} {W : XK} {f : Sl → M D} {S : Sl} {os : List O} {F : Hp} {ad : Ads} {σ : L2.St} {H : Hp} {Q : VK} (sl : SlR K F ad S σ) (w : Own K F ad os H)
    (h : match f S os with
      | .ok d os' => ∀ F' ad' H' v, Grow F ad F' ad' → Own K F' ad' os' H' → RelD K F' ad' d v → Q v H'
      | .ex x os' => ∀ F' ad' H' cls dd, Grow F ad F' ad' → Own K F' ad' os' H' → RelX K F' H' x cls dd → W cls dd H'
      | .bad => False) : TD K W f σ H Q := by
  refine ⟨S, os, F, ad, sl, w, ?_⟩
  revert h
  cases f S os <;> exact fun h => h
section
variable {X : Cx} {W : XK} {a b : Expr} {fa fb : Sl → M D} {es : List Expr} {fr : Sl → M (List D)} {pos : Pos}
theorem da_nil : DA X W [] nilA := pa_imp pa_nil fun σ H Q ⟨S, os, F, ad, sl, w, q⟩ => q F ad H [] Grow.refl w .nil
theorem da_cons (ha : DE X W a fa) (hr : DA X W es fr) (hs : starEach (a :: es) X.env = (false, eval a X.env) :: starEach es X.env := by rfl) : DA X W (a :: es) (consA fa fr) := pa_imp (pa_cons ha hr hs) fun σ H Q ⟨S, os, F, ad, sl, w, q⟩ => by
  refine td_bind sl w ?_
  unfold consA at q
  revert q
  cases fa S os with
  | bad => exact fun q => q
  | ex x os1 => exact fun q => q
  | ok d os1 =>
    intro q F1 ad1 H1 v g1 w1 r1
    refine ⟨S, os1, F1, ad1, sl.mono g1, w1, ?_⟩
    revert q
    show OutL X.K W F ad Q ((fr S os1).bind fun ds os => .ok (d :: ds) os) → _
    cases fr S os1 with
    | bad => exact fun q => q
    | ex x os2 => exact fun q => OutL.grow (r := .ex x os2) g1 q
    | ok ds os2 => exact fun q F2 ad2 H2 vs g2 w2 r2 => q F2 ad2 H2 (v :: vs) (g1.trans g2) w2 (.cons (r1.mono g2) r2)
theorem de_un {op : UnaryOp} {r : V → Hp → VK → Prop} {g : D → M D} (ho : UnR X (unaryOp op) r) (hd : Op1 X.K r g) (ha : DE X W a fa) : DE X W (.UnaryOp op a pos) (op1 g fa) := pe_imp (pe_un ho ha) fun σ H Q ⟨S, os, F, ad, sl, w, q⟩ => by
  refine td_bind sl w ?_
  unfold op1 at q
  revert q
  cases fa S os with
  | bad => exact fun q => q
  | ex x os1 => exact fun q => q
  | ok d os1 => exact fun q F1 ad1 H1 v g1 w1 r1 => hd W F1 ad1 os1 H1 v d Q w1 r1 (OutE.grow g1 q)
theorem t2 {r : R2} {g : D → D → M D} (hd : Op2 X.K r g) {σ : L2.St} {H : Hp} {Q : VK} (h : TD X.K W (op2 g fa fb) σ H Q) : tOp r (TD X.K W fa) (TD X.K W fb) σ H Q := by
  obtain ⟨S, os, F, ad, sl, w, q⟩ := h
  refine td_bind sl w ?_
  unfold op2 at q
  revert q
  cases fa S os with
  | bad => exact fun q => q
  | ex x os1 => exact fun q => q
  | ok d os1 =>
    intro q F1 ad1 H1 v g1 w1 r1
    refine td_bind (sl.mono g1) w1 ?_
    revert q
    show OutE X.K W F ad Q ((fb S os1).bind fun e => g d e) → _
    cases fb S os1 with
    | bad => exact fun q => q
    | ex x os2 => exact fun q => OutE.grow (r := .ex x os2) g1 q
    | ok e os2 => exact fun q F2 ad2 H2 u g2 w2 r2 => hd W F2 ad2 os2 H2 v u d e Q w2 (r1.mono g2) r2 (OutE.grow (g1.trans g2) q)
theorem t2F {r : R2} {g : D → D → M (List P)} (hd : OpF2 X.K r g) {σ : L2.St} {H : Hp} {Q : VK} (h : TDF X.K W (op2 g fa fb) σ H Q) : tOp r (TD X.K W fa) (TD X.K W fb) σ H Q := by
  obtain ⟨S, os, F, ad, sl, w, q⟩ := h
  refine td_bind sl w ?_
  unfold op2 at q
  revert q
  cases fa S os with
  | bad => exact fun q => q
  | ex x os1 => exact fun q => q
  | ok d os1 =>
    intro q F1 ad1 H1 v g1 w1 r1
    refine td_bind (sl.mono g1) w1 ?_
    revert q
    show OutF X.K W F ad Q ((fb S os1).bind fun e => g d e) → _
    cases fb S os1 with
    | bad => exact fun q => q
    | ex x os2 => exact fun q => OutF.grow (r := .ex x os2) g1 q
    | ok e os2 => exact fun q F2 ad2 H2 u g2 w2 r2 => hd W F2 ad2 os2 H2 v u d e Q w2 (r1.mono g2) r2 (OutF.grow (g1.trans g2) q)
theorem de_op {op : Operator} {r : R2} {g : D → D → M D} (ho : OpR X (binaryOp op) r) (hd : Op2 X.K r g) (ha : DE X W a fa) (hb : DE X W b fb) : DE X W (.BinOp a op b pos) (op2 g fa fb) := pe_imp (pe_op ho ha hb) fun σ H Q => t2 hd
theorem df_op {op : Operator} {r : R2} {g : D → D → M (List P)} (ho : OpR X (binaryOp op) r) (hd : OpF2 X.K r g) (ha : DE X W a fa) (hb : DE X W b fb) : DF X W (.BinOp a op b pos) (op2 g fa fb) := pe_imp (pe_op ho ha hb) fun σ H Q => t2F hd
theorem de_cmp {op : CmpOp} {r : R2} {g : D → D → M D} (ho : OpR X (compareOp op) r) (hd : Op2 X.K r g) (ha : DE X W a fa) (hb : DE X W b fb) (hm : behindInMarks op b = false) : DE X W (.Compare a [op] [b] pos) (op2 g fa fb) := pe_imp (pe_cmpR ho ha hb hm) fun σ H Q => t2 hd
theorem de_ix {r : R2} {g : D → D → M D} (ho : IxR X r) (hd : Op2 X.K r g) (ha : DE X W a fa) (hb : DE X W b fb) (hs : PlainIx b) : DE X W (.Subscript a b pos) (op2 g fa fb) := pe_imp (pe_ix ho ha hb hs) fun σ H Q => t2 hd
theorem tN {r : List V → Hp → VK → Prop} {g : List D → M D} (hd : OpN X.K r g) {σ : L2.St} {H : Hp} {Q : VK} (h : TD X.K W (opN g fr) σ H Q) : tCB r (TDL X.K W fr) σ H Q := by
  obtain ⟨S, os, F, ad, sl, w, q⟩ := h
  refine ⟨S, os, F, ad, sl, w, ?_⟩
  unfold opN at q
  revert q
  cases fr S os with
  | bad => exact fun q => q
  | ex x os1 => exact fun q => q
  | ok d os1 => exact fun q F1 ad1 H1 v g1 w1 r1 => hd W F1 ad1 os1 H1 v d Q w1 r1 (OutE.grow g1 q)
theorem tNF {r : List V → Hp → VK → Prop} {g : List D → M (List P)} (hd : OpFN X.K r g) {σ : L2.St} {H : Hp} {Q : VK} (h : TDF X.K W (opN g fr) σ H Q) : tCB r (TDL X.K W fr) σ H Q := by
  obtain ⟨S, os, F, ad, sl, w, q⟩ := h
  refine ⟨S, os, F, ad, sl, w, ?_⟩
  unfold opN at q
  revert q
  cases fr S os with
  | bad => exact fun q => q
  | ex x os1 => exact fun q => q
  | ok d os1 => exact fun q F1 ad1 H1 v g1 w1 r1 => hd W F1 ad1 os1 H1 v d Q w1 r1 (OutF.grow g1 q)
/-- a built-in function, a built-in class -/
theorem de_callB {id : String} {x : Str} {p : Pos} {r : List V → Hp → VK → Prop} {g : List D → M D} (hc : CallR X (.builtin id) r) (hd : OpN X.K r g) (hg : Gl X x) (hm : X.mg x = none) (hv : bootBuiltins x = some (.builtin id)) (ha : DA X W (a :: es) fr)
    (hn : x ≠ "__name__" := by decide) (hdb : (x == ("__debug__" : Str)) = false := by decide)
    (he : starEach (a :: es) X.env = (false, eval a X.env) :: starEach es X.env := by rfl) (hpl : (backTo pos (starEach es X.env)).any (·.1) = false := by rfl) : DE X W (.Call (.Name x p) (a :: es) [] pos) (opN g fr) :=
  pe_imp (pe_callB hc hg hm hv ha hn hdb he hpl) fun σ H Q => tN hd
theorem df_callB {id : String} {x : Str} {p : Pos} {r : List V → Hp → VK → Prop} {g : List D → M (List P)} (hc : CallR X (.builtin id) r) (hd : OpFN X.K r g) (hg : Gl X x) (hm : X.mg x = none) (hv : bootBuiltins x = some (.builtin id)) (ha : DA X W (a :: es) fr)
    (hn : x ≠ "__name__" := by decide) (hdb : (x == ("__debug__" : Str)) = false := by decide)
    (he : starEach (a :: es) X.env = (false, eval a X.env) :: starEach es X.env := by rfl) (hpl : (backTo pos (starEach es X.env)).any (·.1) = false := by rfl) : DF X W (.Call (.Name x p) (a :: es) [] pos) (opN g fr) :=
  pe_imp (pe_callB hc hg hm hv ha hn hdb he hpl) fun σ H Q => tNF hd
theorem de_callTy {T : String} {x : Str} {p : Pos} {r : List V → Hp → VK → Prop} {g : List D → M D} (hc : CallR X (.type T) r) (hd : OpN X.K r g) (hg : Gl X x) (hm : X.mg x = none) (hv : bootBuiltins x = some (.type T)) (ha : DA X W (a :: es) fr)
    (hn : x ≠ "__name__" := by decide) (hdb : (x == ("__debug__" : Str)) = false := by decide)
    (he : starEach (a :: es) X.env = (false, eval a X.env) :: starEach es X.env := by rfl) (hpl : (backTo pos (starEach es X.env)).any (·.1) = false := by rfl) : DE X W (.Call (.Name x p) (a :: es) [] pos) (opN g fr) :=
  pe_imp (pe_callTy hc hg hm hv ha hn hdb he hpl) fun σ H Q => tN hd
theorem df_callTy {T : String} {x : Str} {p : Pos} {r : List V → Hp → VK → Prop} {g : List D → M (List P)} (hc : CallR X (.type T) r) (hd : OpFN X.K r g) (hg : Gl X x) (hm : X.mg x = none) (hv : bootBuiltins x = some (.type T)) (ha : DA X W (a :: es) fr)
    (hn : x ≠ "__name__" := by decide) (hdb : (x == ("__debug__" : Str)) = false := by decide)
    (he : starEach (a :: es) X.env = (false, eval a X.env) :: starEach es X.env := by rfl) (hpl : (backTo pos (starEach es X.env)).any (·.1) = false := by rfl) : DF X W (.Call (.Name x p) (a :: es) [] pos) (opN g fr) :=
  pe_imp (pe_callTy hc hg hm hv ha hn hdb he hpl) fun σ H Q => tNF hd
end

/-! ### new lists: still, or owned -/
def frz (m : M (List P)) : M D := fun os => (m os).bind fun xs os => .ok (.p (.lst xs)) os
def frzT (m : M (List P)) : M D := fun os => (m os).bind fun xs os => .ok (.p (.tup xs)) os
def ownL (m : M (List P)) : M D := fun os => (m os).bind fun xs os => .ok (.own os.length) (os ++ [.lst xs])
section
variable {K : PySem.W.Frag} {W : XK} {F : Hp} {ad : Ads} {Q : VK}
theorem out_frz {m : M (List P)} {os : List O} (h : OutE K W F ad Q (frz m os)) : OutF K W F ad Q (m os) := by
  unfold frz at h
  revert h
  cases m os with
  | bad => exact fun q => q
  | ex x os1 => exact fun q => q
  | ok xs os1 => exact fun q F' ad' H' p vs g w np r => q (upd F' p (.lst vs)) ad' _ _ (g.trans (grow_new (w.none_ np).1)) (w.new np) (.lst upd_same (r.mono (same_new (w.none_ np).1)))
theorem out_own {m : M (List P)} {os : List O} (h : OutE K W F ad Q (ownL m os)) : OutF K W F ad Q (m os) := by
  unfold ownL at h
  revert h
  cases m os with
  | bad => exact fun q => q
  | ex x os1 => exact fun q => q
  | ok xs os1 => exact fun q F' ad' H' p vs g w np r => q F' (ad'.snoc p) _ _ (g.trans grow_own) (w.born np rfl ⟨vs, rfl, r⟩) ⟨p, by rw [← w.len]; exact List.getElem?_concat_length, rfl⟩
end
section
variable {X : Cx} {W : XK} {e : Expr} {f : Sl → M (List P)}
theorem de_frz (h : DF X W e f) : DE X W e (fun S => frz (f S)) := pe_imp h fun σ H Q ⟨S, os, F, ad, sl, w, q⟩ => ⟨S, os, F, ad, sl, w, out_frz q⟩
theorem de_own (h : DF X W e f) : DE X W e (fun S => ownL (f S)) := pe_imp h fun σ H Q ⟨S, os, F, ad, sl, w, q⟩ => ⟨S, os, F, ad, sl, w, out_own q⟩
end
/-! ### displays -/
def plain : List D → Option (List P)
  | [] => some []
  | .p x :: ds => match plain ds with
    | some xs => some (x :: xs)
    | none => none
  | .own _ :: _ => none
theorem plain_rep {K : PySem.W.Frag} {F : Hp} {ad : Ads} : ∀ {ds : List D} {xs : List P} {vs : List V}, plain ds = some xs → RelDs K F ad ds vs → RepL K F xs vs
  | [], _, _, e, .nil => by cases e; exact .nil
  | .p x :: ds, xs, _, e, .cons r t => by
    unfold plain at e
    cases e1 : plain ds with
    | none => rw [e1] at e; cases e
    | some ys =>
      rw [e1] at e
      cases e
      exact .cons r (plain_rep e1 t)
  | .own _ :: _, _, _, e, .cons _ _ => by cases e
/-- a tuple of plain items -/
def mkT (ds : List D) : M D := fun os => match plain ds with
  | some xs => if xs.length ≤ sizeLine then .ok (.p (.tup xs)) os else .bad
  | none => .bad
def mkL (ds : List D) : M (List P) := fun os => match plain ds with
  | some xs => if xs.length ≤ sizeLine then .ok xs os else .bad
  | none => .bad
section
variable {X : Cx} {W : XK} {es : List Expr} {fr : Sl → M (List D)} {pos : Pos}
theorem de_tup {x1} (h : DA X W es fr) : DE X W (.Tuple es x1 pos) (opN mkT fr) := pe_imp (pe_tup h) fun σ H Q ⟨S, os, F, ad, sl, w, q⟩ => by
  refine ⟨S, os, F, ad, sl, w, ?_⟩
  unfold opN at q
  revert q
  cases fr S os with
  | bad => exact fun q => q
  | ex x os1 => exact fun q => q
  | ok ds os1 =>
    show OutE X.K W F ad Q (mkT ds os1) → _
    unfold mkT
    cases e : plain ds with
    | none => exact fun q => q.elim
    | some xs =>
      dsimp only
      split
      · intro q F1 ad1 H1 vs g1 w1 r1
        have r2 := plain_rep e r1
        refine ⟨by rw [r2.length]; assumption, fun p np => ?_⟩
        exact q (upd F1 p (.tup vs)) ad1 _ _ (g1.trans (grow_new (w1.none_ np).1)) (w1.new np) (.tup upd_same (r2.mono (same_new (w1.none_ np).1)))
      · exact fun q => q.elim
theorem df_lst (h : DA X W es fr) : DF X W (.List es pos) (opN mkL fr) := pe_imp (pe_lst h) fun σ H Q ⟨S, os, F, ad, sl, w, q⟩ => by
  refine ⟨S, os, F, ad, sl, w, ?_⟩
  unfold opN at q
  revert q
  cases fr S os with
  | bad => exact fun q => q
  | ex x os1 => exact fun q => q
  | ok ds os1 =>
    show OutF X.K W F ad Q (mkL ds os1) → _
    unfold mkL
    cases e : plain ds with
    | none => exact fun q => q.elim
    | some xs =>
      dsimp only
      split
      · intro q F1 ad1 H1 vs g1 w1 r1
        have r2 := plain_rep e r1
        exact ⟨by rw [r2.length]; assumption, fun p np => q F1 ad1 H1 p vs g1 w1 np r2⟩
      · exact fun q => q.elim
end

/-! ### tests -/
def truth1 (d : D) : M Bool := fun os => match d with
  | .p (.bl b) => .ok b os
  | _ => .bad
def tst (f : Sl → M D) : Sl → M Bool := fun S os => (f S os).bind truth1
def andB (f g : Sl → M Bool) : Sl → M Bool := fun S os => (f S os).bind fun b os => match b with
  | true => g S os
  | false => .ok false os
def orB (f g : Sl → M Bool) : Sl → M Bool := fun S os => (f S os).bind fun b os => match b with
  | true => .ok true os
  | false => g S os
def notB (f : Sl → M Bool) : Sl → M Bool := fun S os => (f S os).bind fun b os => .ok (!b) os
section
variable {X : Cx} {W : XK} {a b : Expr} {f g : Sl → M Bool} {fd : Sl → M D} {rest : List Expr} {pos : Pos}
theorem t_tst {σ : L2.St} {H : Hp} {Q : Bool → Hp → Prop} (h : TDB X.K W (tst fd) σ H Q) : TD X.K W fd σ H fun x H1 => ∃ c, x = .bl c ∧ Q c H1 := by
  obtain ⟨S, os, F, ad, sl, w, q⟩ := h
  refine td_bind sl w ?_
  unfold tst at q
  revert q
  cases fd S os with
  | bad => exact fun q => q
  | ex x os1 => exact fun q => q
  | ok d os1 =>
    intro q F1 ad1 H1 v g1 w1 r1
    cases d with
    | own i => exact q.elim
    | p x =>
      cases x with
      | bl b =>
        cases r1
        exact ⟨b, rfl, q F1 ad1 H1 g1 w1⟩
      | _ => exact q.elim
theorem dt_val (h : DE X W a fd) (he : ∀ whole, isTrue a X.env whole = (do let v ← whole; standAt a.pos; holding [v] (truthy v)) := by intro _; rfl) : DT X W a (tst fd) := pt_imp (pt_val h he) fun σ H Q => t_tst
theorem dt_cmp {op : CmpOp} {r : R2} {g : D → D → M D} {fa fb : Sl → M D} (ho : OpR X (compareOp op) r) (hd : Op2 X.K r g) (ha : DE X W a fa) (hb : DE X W b fb) (hm : behindInMarks op b = false) : DT X W (.Compare a [op] [b] pos) (tst (op2 g fa fb)) :=
  pt_imp (pt_cmpR ho ha hb hm) fun σ H Q h => t2 hd (t_tst h)
theorem dt_not (h : DT X W a f) : DT X W (.UnaryOp .Not a pos) (notB f) := pt_imp (pt_not h) fun σ H Q ⟨S, os, F, ad, sl, w, q⟩ => by
  refine ⟨S, os, F, ad, sl, w, ?_⟩
  unfold notB at q
  revert q
  cases f S os with
  | bad => exact fun q => q
  | ex x os1 => exact fun q => q
  | ok d os1 => exact fun q F1 ad1 H1 g1 w1 => q F1 ad1 H1 g1 w1
theorem dw_and1 (h : DT X W a f) : DW X W (.BoolOp .And [a] pos) f := pw_and1 h
theorem dw_or1 (h : DT X W a f) : DW X W (.BoolOp .Or [a] pos) f := pw_or1 h
theorem dw_and (h : DT X W a f) (hb : DW X W (.BoolOp .And (b :: rest) pos) g) : DW X W (.BoolOp .And (a :: b :: rest) pos) (andB f g) := pw_imp (pw_and h hb) fun σ H Q ⟨S, os, F, ad, sl, w, q⟩ => by
  refine ⟨S, os, F, ad, sl, w, ?_⟩
  unfold andB at q
  revert q
  cases f S os with
  | bad => exact fun q => q
  | ex x os1 => exact fun q => q
  | ok d os1 =>
    intro q F1 ad1 H1 g1 w1
    cases d with
    | true => exact iteT ⟨S, os1, F1, ad1, sl.mono g1, w1, OutB.grow g1 q⟩
    | false => exact iteF (q F1 ad1 H1 g1 w1)
theorem dw_or (h : DT X W a f) (hb : DW X W (.BoolOp .Or (b :: rest) pos) g) : DW X W (.BoolOp .Or (a :: b :: rest) pos) (orB f g) := pw_imp (pw_or h hb) fun σ H Q ⟨S, os, F, ad, sl, w, q⟩ => by
  refine ⟨S, os, F, ad, sl, w, ?_⟩
  unfold orB at q
  revert q
  cases f S os with
  | bad => exact fun q => q
  | ex x os1 => exact fun q => q
  | ok d os1 =>
    intro q F1 ad1 H1 g1 w1
    cases d with
    | true => exact iteT (q F1 ad1 H1 g1 w1)
    | false => exact iteF ⟨S, os1, F1, ad1, sl.mono g1, w1, OutB.grow g1 q⟩
theorem dt_w (h : DW X W a f) : DT X W a f := PW.pt h

/-! ### and, or, not, if as values (truth values) -/
def bV (f : Sl → M Bool) : Sl → M D := fun S os => (f S os).bind fun b os => .ok (.p (.bl b)) os
def andV (f g : Sl → M D) : Sl → M D := fun S os => (f S os).bind fun d os => match d with
  | .p (.bl true) => g S os
  | .p (.bl false) => .ok (.p (.bl false)) os
  | _ => .bad
def orV (f g : Sl → M D) : Sl → M D := fun S os => (f S os).bind fun d os => match d with
  | .p (.bl true) => .ok (.p (.bl true)) os
  | .p (.bl false) => g S os
  | _ => .bad
def notV (d : D) : M D := fun os => match d with
  | .p (.bl b) => .ok (.p (.bl (!b))) os
  | _ => .bad
def ifV (c : Sl → M Bool) (f g : Sl → M D) : Sl → M D := fun S os => (c S os).bind fun b os => match b with
  | true => f S os
  | false => g S os
theorem de_one {op} {f : Sl → M D} (h : DE X W a f) : DE X W (.BoolOp op [a] pos) f := pe_one h
theorem de_and {f g : Sl → M D} (h : DE X W a f) (hb : DE X W (.BoolOp .And (b :: rest) pos) g) : DE X W (.BoolOp .And (a :: b :: rest) pos) (andV f g) := pe_imp (pe_and h hb) fun σ H Q ⟨S, os, F, ad, sl, w, q⟩ => by
  refine td_bind sl w ?_
  unfold andV at q
  revert q
  cases f S os with
  | bad => exact fun q => q
  | ex x os1 => exact fun q => q
  | ok d os1 =>
    intro q F1 ad1 H1 v g1 w1 r1
    cases d with
    | own i => exact q.elim
    | p x =>
      cases x with
      | bl b =>
        cases r1
        cases b with
        | true => exact ⟨true, rfl, iteT ⟨S, os1, F1, ad1, sl.mono g1, w1, OutE.grow g1 q⟩⟩
        | false => exact ⟨false, rfl, iteF (q F1 ad1 H1 _ g1 w1 (.bl false))⟩
      | _ => exact q.elim
theorem de_or {f g : Sl → M D} (h : DE X W a f) (hb : DE X W (.BoolOp .Or (b :: rest) pos) g) : DE X W (.BoolOp .Or (a :: b :: rest) pos) (orV f g) := pe_imp (pe_or h hb) fun σ H Q ⟨S, os, F, ad, sl, w, q⟩ => by
  refine td_bind sl w ?_
  unfold orV at q
  revert q
  cases f S os with
  | bad => exact fun q => q
  | ex x os1 => exact fun q => q
  | ok d os1 =>
    intro q F1 ad1 H1 v g1 w1 r1
    cases d with
    | own i => exact q.elim
    | p x =>
      cases x with
      | bl b =>
        cases r1
        cases b with
        | true => exact ⟨true, rfl, iteT (q F1 ad1 H1 _ g1 w1 (.bl true))⟩
        | false => exact ⟨false, rfl, iteF ⟨S, os1, F1, ad1, sl.mono g1, w1, OutE.grow g1 q⟩⟩
      | _ => exact q.elim
theorem de_not {f : Sl → M D} (h : DE X W a f) : DE X W (.UnaryOp .Not a pos) (op1 notV f) := pe_imp (pe_not h) fun σ H Q ⟨S, os, F, ad, sl, w, q⟩ => by
  refine td_bind sl w ?_
  unfold op1 at q
  revert q
  cases f S os with
  | bad => exact fun q => q
  | ex x os1 => exact fun q => q
  | ok d os1 =>
    intro q F1 ad1 H1 v g1 w1 r1
    cases d with
    | own i => exact q.elim
    | p x =>
      cases x with
      | bl b =>
        cases r1
        exact ⟨b, rfl, q F1 ad1 H1 _ g1 w1 (.bl _)⟩
      | _ => exact q.elim
theorem de_if {c : Expr} {fc : Sl → M Bool} {f g : Sl → M D} (hc : DT X W c fc) (h : DE X W a f) (hb : DE X W b g) : DE X W (.IfExp c a b pos) (ifV fc f g) := pe_imp (pe_ifExp hc h hb) fun σ H Q ⟨S, os, F, ad, sl, w, q⟩ => by
  refine ⟨S, os, F, ad, sl, w, ?_⟩
  unfold ifV at q
  revert q
  cases fc S os with
  | bad => exact fun q => q
  | ex x os1 => exact fun q => q
  | ok d os1 =>
    intro q F1 ad1 H1 g1 w1
    cases d with
    | true => exact iteT ⟨S, os1, F1, ad1, sl.mono g1, w1, OutE.grow g1 q⟩
    | false => exact iteF ⟨S, os1, F1, ad1, sl.mono g1, w1, OutE.grow g1 q⟩
end
end DL
/-! DLc: operators, built-ins, methods by values. -/
namespace DL
open PySem PySem.Spec
open PyProof.Rows L2

theorem opr_or {X : Cx} {f : Value → Value → Sem Value} {r r' : R2} (h : OpR X f r) (h' : OpR X f r') : OpR X f (fun x y H Q => r x y H Q ∨ r' x y H Q) := by
  intro pins s σ H x y v u Q I rx ry q
  rcases q with q | q
  · exact h pins s σ H x y v u Q I rx ry q
  · exact h' pins s σ H x y v u Q I rx ry q

/-! ### what a value holds -/
def lstOf (os : List O) : D → Option (List P)
  | .p (.lst xs) => some xs
  | .own i => match os[i]? with
    | some (.lst xs) => some xs
    | _ => none
  | _ => none
theorem lst_at {K : PySem.W.Frag} {F : Hp} {ad : Ads} {os : List O} {H : Hp} {d : D} {v : V} {xs : List P} (w : Own K F ad os H) (r : RelD K F ad d v) (e : lstOf os d = some xs) : ∃ a vs, v = .ref a ∧ H a = some (.lst vs) ∧ RepL K F xs vs := by
  cases d with
  | p x =>
    cases r with
    | lst h r =>
      cases e
      exact ⟨_, _, rfl, w.same _ _ h, r⟩
    | _ => cases e
  | own i =>
    obtain ⟨a, ha, rfl⟩ := r
    unfold lstOf at e
    dsimp only at e
    cases q : os[i]? with
    | none => rw [q] at e; cases e
    | some o =>
      rw [q] at e
      cases o with
      | lst ys =>
        cases e
        obtain ⟨a', ha', vs, h, r⟩ := w.at_ q
        rw [ha] at ha'
        cases ha'
        exact ⟨a, vs, rfl, h, r⟩
      | _ => cases e
/-- a list or a tuple, read -/
def seqOf (os : List O) : D → Option (List P)
  | .p (.lst xs) => some xs
  | .p (.tup xs) => some xs
  | .p (.scr ns) => some (ns.map P.int)
  | .p (.ctup xs) => some xs
  | .own i => match os[i]? with
    | some (.lst xs) => some xs
    | _ => none
  | _ => none
theorem rep_ints {K : PySem.W.Frag} {F : Hp} : ∀ ns : List Int, RepL K F (ns.map P.int) (ns.map V.int)
  | [] => .nil
  | n :: ns => .cons (.int n) (rep_ints ns)
theorem seq_at {K : PySem.W.Frag} {F : Hp} {ad : Ads} {os : List O} {H : Hp} {d : D} {v : V} {xs : List P} (w : Own K F ad os H) (r : RelD K F ad d v) (e : seqOf os d = some xs) : ∃ a vs, v = .ref a ∧ (SqL K H a vs ∨ SqT K H a vs) ∧ RepL K F xs vs := by
  cases d with
  | p x =>
    cases r with
    | lst h r =>
      cases e
      exact ⟨_, _, rfl, .inl (.of (w.same _ _ h)), r⟩
    | tup h r =>
      cases e
      exact ⟨_, _, rfl, .inr (.of (w.same _ _ h)), r⟩
    | ctup h r =>
      cases e
      exact ⟨_, _, rfl, .inr (h H), r⟩
    | scr h =>
      cases e
      exact ⟨_, _, rfl, .inl (w.same.seq h), rep_ints _⟩
    | _ => cases e
  | own i =>
    obtain ⟨a, vs, ev, h, r⟩ := lst_at (xs := xs) w r (by
      unfold seqOf at e
      unfold lstOf
      exact e)
    exact ⟨a, vs, ev, .inl (.of h), r⟩

/-! ### arithmetic -/
def catV (d e : D) : M (List P) := fun os => match lstOf os d, lstOf os e with
  | some xs, some ys => if xs.length + ys.length ≤ sizeLine then .ok (xs ++ ys) os else .bad
  | _, _ => .bad
def addV (d e : D) : M D := fun os => match d, e with
  | .p (.int i), .p (.int j) => .ok (.p (.int (i + j))) os
  | .p (.str a), .p (.str b) => if a.length + b.length ≤ sizeLine then .ok (.p (.str (a ++ b))) os else .bad
  | .p (.tup xs), .p (.tup ys) => if xs.isEmpty = false ∧ ys.isEmpty = false ∧ xs.length + ys.length ≤ sizeLine then .ok (.p (.tup (xs ++ ys))) os else .bad
  | d, e => frz (catV d e) os
def subV (d e : D) : M D := fun os => match d, e with
  | .p (.int i), .p (.int j) => .ok (.p (.int (i - j))) os
  | _, _ => .bad
def mulOk (i j : Int) : Bool := decide (-(2 ^ 64) < i ∧ i < 2 ^ 64) || decide (-(2 ^ 64) < j ∧ j < 2 ^ 64)
def repV (d e : D) : M (List P) := fun os => match lstOf os d, e with
  | some xs, .p (.int k) => if -(2 ^ 63) ≤ k ∧ k < 2 ^ 63 ∧ xs.length * k.toNat ≤ sizeLine then .ok (List.replicate k.toNat xs).flatten os else .bad
  | _, _ => .bad
def mulV (d e : D) : M D := fun os => match d, e with
  | .p (.int i), .p (.int j) => if mulOk i j then .ok (.p (.int (i * j))) os else .bad
  | d, e => frz (repV d e) os
def divV (d e : D) : M D := fun os => match d, e with
  | .p (.int i), .p (.int j) => if 0 < j ∧ j < 1073741824 then .ok (.p (.int (i / j))) os else if j < 0 ∧ -1073741824 < j then .ok (.p (.int (i.fdiv j))) os else .bad
  | _, _ => .bad
def modV (d e : D) : M D := fun os => match d, e with
  | .p (.int i), .p (.int j) => if 0 < j then .ok (.p (.int (i % j))) os else if j < 0 then .ok (.p (.int (i.fmod j))) os else .bad
  | _, _ => .bad
def powV (d e : D) : M D := fun os => match d, e with
  | .p (.int i), .p (.int j) => if 0 ≤ j ∧ j ≤ 1000000 ∧ i.natAbs < 2 ^ 64 then .ok (.p (.int (i ^ j.toNat))) os else .bad
  | _, _ => .bad
def negV (d : D) : M D := fun os => match d with
  | .p (.int i) => .ok (.p (.int (-i))) os
  | _ => .bad
section
variable {K : PySem.W.Frag}
theorem f_cat : OpF2 K rCat catV := by
  intro W F ad os H x y d e Q w r1 r2 q
  unfold catV at q
  cases e1 : lstOf os d with
  | none => rw [e1] at q; exact q.elim
  | some xs =>
    cases e2 : lstOf os e with
    | none => rw [e1, e2] at q; exact q.elim
    | some ys =>
      rw [e1, e2] at q
      dsimp only at q
      split at q
      · obtain ⟨a, vs, rfl, ha, ra⟩ := lst_at w r1 e1
        obtain ⟨b, ws, rfl, hb, rb⟩ := lst_at w r2 e2
        exact ⟨a, b, vs, ws, rfl, rfl, ha, hb, by rw [ra.length, rb.length]; assumption, fun p np => q F ad H p _ Grow.refl w np (ra.append rb)⟩
      · exact q.elim
theorem f_rep : OpF2 K rRep repV := by
  intro W F ad os H x y d e Q w r1 r2 q
  unfold repV at q
  cases e1 : lstOf os d with
  | none => rw [e1] at q; exact q.elim
  | some xs =>
    rw [e1] at q
    cases e with
    | own i => exact q.elim
    | p z =>
      cases r2 with
      | int k =>
        dsimp only at q
        split at q
        · rename_i hk
          obtain ⟨a, vs, rfl, ha, ra⟩ := lst_at w r1 e1
          refine ⟨a, k, vs, rfl, rfl, ha, hk.1, hk.2.1, by rw [ra.length]; exact hk.2.2, fun p np => q F ad H p _ Grow.refl w np ?_⟩
          generalize k.toNat = n
          induction n with
          | zero => exact .nil
          | succ n ih =>
            rw [List.replicate_succ, List.replicate_succ, List.flatten_cons, List.flatten_cons]
            exact ra.append ih
        · exact q.elim
      | _ => exact q.elim
abbrev rAddV (K : PySem.W.Frag) : R2 := fun x y H Q => ((rI0 fun i j => .int (i + j)) x y H Q ∨ (∃ i j, x = .str i ∧ y = .str j ∧ i.length + j.length ≤ sizeLine ∧ Q (.str (i ++ j)) H)) ∨ (rCatT K x y H Q ∨ rCat x y H Q)
theorem o_add {X : Cx} : OpR X (binaryOp .Add) (rAddV X.K) := opr_or (opr_or op_add op_add_str) (opr_or op_catT op_cat)
theorem v_add : Op2 K (rAddV K) addV := by
  intro W F ad os H x y d e Q w r1 r2 q
  have gen : OutE K W F ad Q (frz (catV d e) os) → rAddV K x y H Q := fun q => .inr (.inr (f_cat W F ad os H x y d e Q w r1 r2 (out_frz q)))
  cases d with
  | own i => exact gen q
  | p a =>
    cases e with
    | own i => exact gen (by cases a <;> exact q)
    | p b =>
      cases r1 with
      | int i =>
        cases r2 with
        | int j => exact .inl (.inl ⟨i, j, rfl, rfl, q.now w (.int _)⟩)
        | _ => exact q.elim
      | str s =>
        cases r2 with
        | str t =>
          unfold addV at q
          dsimp only at q
          split at q
          · rename_i hl
            exact .inl (.inr ⟨s, t, rfl, rfl, hl, q.now w (.str _)⟩)
          · exact q.elim
        | _ => exact q.elim
      | tup h1 t1 =>
        cases r2 with
        | tup h2 t2 =>
          unfold addV at q
          dsimp only at q
          split at q
          · rename_i hl
            refine .inr (.inl ⟨_, _, _, _, rfl, rfl, .of (w.same _ _ h1), .of (w.same _ _ h2), ?_, by rw [t1.length, t2.length]; exact hl.2.2, fun z => ?_, fun _ p np => ?_⟩)
            · intro z
              subst z
              cases t1
              cases hl.1
            · subst z
              cases t2
              cases hl.2.1
            · exact q (upd F p _) ad _ _ (grow_new (w.none_ np).1) (w.new np) (.tup upd_same ((t1.append t2).mono (same_new (w.none_ np).1)))
          · exact q.elim
        | _ => exact q.elim
      | lst h1 t1 =>
        cases r2 with
        | lst h2 t2 => exact gen q
        | _ => exact q.elim
      | _ => exact q.elim
theorem v_sub : Op2 K (rI0 fun i j => .int (i - j)) subV := by
  intro W F ad os H x y d e Q w r1 r2 q
  cases d with
  | own i => exact q.elim
  | p a =>
    cases e with
    | own i => cases a <;> exact q.elim
    | p b =>
      cases r1 with
      | int i =>
        cases r2 with
        | int j => exact ⟨i, j, rfl, rfl, q.now w (.int _)⟩
        | _ => exact q.elim
      | _ => exact q.elim
abbrev rMulV : R2 := fun x y H Q => (rI CMul fun i j => .int (i * j)) x y H Q ∨ rRep x y H Q
theorem o_mul {X : Cx} : OpR X (binaryOp .Mult) rMulV := opr_or op_mul op_rep
theorem v_mul : Op2 K rMulV mulV := by
  intro W F ad os H x y d e Q w r1 r2 q
  have gen : OutE K W F ad Q (frz (repV d e) os) → rMulV x y H Q := fun q => .inr (f_rep W F ad os H x y d e Q w r1 r2 (out_frz q))
  cases d with
  | own i => exact gen q
  | p a =>
    cases e with
    | own i => exact gen (by cases a <;> exact q)
    | p b =>
      cases r1 with
      | int i =>
        cases r2 with
        | int j =>
          unfold mulV at q
          dsimp only at q
          split at q
          · rename_i hm
            unfold mulOk at hm
            rw [Bool.or_eq_true, decide_eq_true_eq, decide_eq_true_eq] at hm
            exact .inl ⟨i, j, rfl, rfl, hm, q.now w (.int _)⟩
          · exact q.elim
        | _ => exact q.elim
      | lst h1 t1 => exact gen (by cases b <;> exact q)
      | _ => exact q.elim
abbrev rDivV : R2 := fun x y H Q => (rI CDiv fun i j => .int (i / j)) x y H Q ∨ (rI CDivN fun i j => .int (i.fdiv j)) x y H Q
theorem o_div {X : Cx} : OpR X (binaryOp .FloorDiv) rDivV := opr_or op_fdiv op_fdivN
theorem v_div : Op2 K rDivV divV := by
  intro W F ad os H x y d e Q w r1 r2 q
  cases d with
  | own i => exact q.elim
  | p a =>
    cases e with
    | own i => cases a <;> exact q.elim
    | p b =>
      cases r1 with
      | int i =>
        cases r2 with
        | int j =>
          unfold divV at q
          dsimp only at q
          split at q
          · exact .inl ⟨i, j, rfl, rfl, by assumption, q.now w (.int _)⟩
          · split at q
            · rename_i hj
              exact .inr ⟨i, j, rfl, rfl, ⟨by omega, by omega⟩, q.now w (.int _)⟩
            · exact q.elim
        | _ => exact q.elim
      | _ => exact q.elim
abbrev rModV : R2 := fun x y H Q => (rI (fun _ j => 0 < j) fun i j => .int (i % j)) x y H Q ∨ (rI (fun _ j => j ≠ 0) fun i j => .int (i.fmod j)) x y H Q
theorem o_mod {X : Cx} : OpR X (binaryOp .Mod) rModV := opr_or op_mod op_modN
theorem v_mod : Op2 K rModV modV := by
  intro W F ad os H x y d e Q w r1 r2 q
  cases d with
  | own i => exact q.elim
  | p a =>
    cases e with
    | own i => cases a <;> exact q.elim
    | p b =>
      cases r1 with
      | int i =>
        cases r2 with
        | int j =>
          unfold modV at q
          dsimp only at q
          split at q
          · exact .inl ⟨i, j, rfl, rfl, by assumption, q.now w (.int _)⟩
          · split at q
            · exact .inr ⟨i, j, rfl, rfl, by omega, q.now w (.int _)⟩
            · exact q.elim
        | _ => exact q.elim
      | _ => exact q.elim
theorem v_pow : Op2 K (rI CPow fun i j => .int (i ^ j.toNat)) powV := by
  intro W F ad os H x y d e Q w r1 r2 q
  cases d with
  | own i => exact q.elim
  | p a =>
    cases e with
    | own i => cases a <;> exact q.elim
    | p b =>
      cases r1 with
      | int i =>
        cases r2 with
        | int j =>
          unfold powV at q
          dsimp only at q
          split at q
          · exact ⟨i, j, rfl, rfl, by assumption, q.now w (.int _)⟩
          · exact q.elim
        | _ => exact q.elim
      | _ => exact q.elim
theorem v_neg : Op1 K (rU fun i => .int (-i)) negV := by
  intro W F ad os H x d Q w r1 q
  cases d with
  | own i => exact q.elim
  | p a =>
    cases r1 with
    | int i => exact ⟨i, rfl, q.now w (.int _)⟩
    | _ => exact q.elim

/-! ### == and != -/
mutual
def py : P → PyData
  | .non => .none
  | .bl b => .bool b
  | .int i => .int i
  | .str x => .str x
  | .tup xs => .tuple (pyL xs)
  | .lst xs => .list (pyL xs)
  | .scr _ => .none
  | .ctup _ => .none
  | .dK _ => .none
  | .dT _ => .none
  | .ins _ _ => .none
def pyL : List P → List PyData
  | [] => []
  | x :: xs => py x :: pyL xs
end
mutual
/-- it may be compared -/
def pcan : P → Bool
  | .non => true
  | .bl _ => true
  | .int _ => true
  | .str x => PyData.strOk x
  | .tup xs => pcanL xs
  | .lst xs => pcanL xs
  | _ => false
def pcanL : List P → Bool
  | [] => true
  | x :: xs => pcan x && pcanL xs
end
mutual
theorem can_py : ∀ p : P, pcan p = true → (py p).canLay0 = true
  | .non, _ => by simp [py, PyData.canLay0]
  | .bl _, _ => by simp [py, PyData.canLay0]
  | .int _, _ => by simp [py, PyData.canLay0]
  | .str x, h => by simpa [py, PyData.canLay0, pcan] using h
  | .tup xs, h => by simpa [py, PyData.canLay0] using can_pyL xs (by simpa [pcan] using h)
  | .lst xs, h => by simpa [py, PyData.canLay0] using can_pyL xs (by simpa [pcan] using h)
  | .scr _, h => by simp [pcan] at h
  | .ctup _, h => by simp [pcan] at h
  | .dK _, h => by simp [pcan] at h
  | .dT _, h => by simp [pcan] at h
  | .ins _ _, h => by simp [pcan] at h
theorem can_pyL : ∀ p : List P, pcanL p = true → PyData.canLayAll0 (pyL p) = true
  | [], _ => by simp [pyL, PyData.canLayAll0]
  | x :: xs, h => by
    simp only [pcanL, Bool.and_eq_true] at h
    simp only [pyL, PyData.canLayAll0, Bool.and_eq_true]
    exact ⟨can_py x h.1, can_pyL xs h.2⟩
end
mutual
theorem dp_py {F H : Hp} (s : Same F H) : ∀ (p : P) {v : V}, pcan p = true → Rep K F p v → Dp K H v (py p)
  | .non, _, _, .non => by unfold py; exact .non
  | .bl b, _, _, .bl _ => by unfold py; exact .bl b
  | .int b, _, _, .int _ => by unfold py; exact .int b
  | .str b, _, _, .str _ => by unfold py; exact .str b
  | .tup xs, _, h, r => by
    unfold py
    cases r with
    | tup ha r => exact .tup (.of (s _ _ ha)) (dp_pyL s xs (by simpa [pcan] using h) r)
  | .lst xs, _, h, r => by
    unfold py
    cases r with
    | lst ha r => exact .lst (.of (s _ _ ha)) (dp_pyL s xs (by simpa [pcan] using h) r)
  | .scr _, _, h, _ => by simp [pcan] at h
  | .ctup _, _, h, _ => by simp [pcan] at h
  | .dK _, _, h, _ => by simp [pcan] at h
  | .dT _, _, h, _ => by simp [pcan] at h
  | .ins _ _, _, h, _ => by simp [pcan] at h
theorem dp_pyL {F H : Hp} (s : Same F H) : ∀ (p : List P) {v : List V}, pcanL p = true → RepL K F p v → DpAll K H v (pyL p)
  | [], _, _, .nil => by unfold pyL; exact .nil
  | p :: ps, _, h, .cons h1 h2 => by
    unfold pyL
    simp only [pcanL, Bool.and_eq_true] at h
    exact .cons (dp_py s p h.1 h1) (dp_pyL s ps h.2 h2)
end
def peq (a b : P) : Bool := PyData.eqv (py a) (py b)
/-- the data of a value that may be compared -/
def dat (os : List O) : D → Option P
  | .p x => some x
  | .own i => match os[i]? with
    | some (.lst xs) => some (.lst xs)
    | _ => none
def pfit (a : P) : Bool := pcan a && decide ((py a).depth ≤ 64)
def eqP (d e : D) (os : List O) : Option Bool := match d, e with
  | .p (.int i), .p (.int j) => some (decide (i = j))
  | .p (.str a), .p (.str b) => some (decide (a = b))
  | .p (.bl a), .p (.bl b) => some (decide (a = b))
  | d, e => match dat os d, dat os e with
    | some a, some b => if (pfit a && pfit b) = true then some (peq a b) else none
    | _, _ => none
def eqX (d e : D) : M D := fun os => match eqP d e os with
  | some b => .ok (.p (.bl b)) os
  | none => .bad
def neX (d e : D) : M D := fun os => match eqP d e os with
  | some b => .ok (.p (.bl (!b))) os
  | none => .bad
theorem dat_at {F : Hp} {ad : Ads} {os : List O} {H : Hp} {d : D} {v : V} {a : P} (w : Own K F ad os H) (r : RelD K F ad d v) (e : dat os d = some a) (c : pfit a = true) : Dp K H v (py a) ∧ SeqAt.shaped (py a) = true := by
  unfold pfit at c
  rw [Bool.and_eq_true, decide_eq_true_eq] at c
  refine ⟨?_, by unfold SeqAt.shaped; rw [can_py a c.1, Bool.true_and]; exact decide_eq_true c.2⟩
  cases d with
  | p x =>
    cases e
    exact dp_py w.same _ c.1 r
  | own i =>
    cases q : os[i]? with
    | none =>
      unfold dat at e
      dsimp only at e
      rw [q] at e
      cases e
    | some o =>
      unfold dat at e
      dsimp only at e
      rw [q] at e
      cases o with
      | lst xs =>
        cases e
        obtain ⟨b, ha, vs, h, rr⟩ := w.at_ q
        obtain ⟨b', hb, rfl⟩ := r
        rw [ha] at hb
        cases hb
        unfold py
        exact .lst (.of h) (dp_pyL w.same _ (by simpa [pcan] using c.1) rr)
      | _ => cases e
theorem eq_core {F : Hp} {ad : Ads} {os : List O} {H : Hp} {x y : V} {d e : D} {b : Bool} (w : Own K F ad os H) (r1 : RelD K F ad d x) (r2 : RelD K F ad e y) (q : eqP d e os = some b) :
    (scal x y = true ∧ decide (x = y) = b) ∨ ∃ u v, Dp K H x u ∧ Dp K H y v ∧ SeqAt.shaped u = true ∧ SeqAt.shaped v = true ∧ PyData.eqv u v = b := by
  have gen : (match dat os d, dat os e with
    | some a, some b => if (pfit a && pfit b) = true then some (peq a b) else none
    | _, _ => none) = some b → ∃ u v, Dp K H x u ∧ Dp K H y v ∧ SeqAt.shaped u = true ∧ SeqAt.shaped v = true ∧ PyData.eqv u v = b := fun q => by
    cases e1 : dat os d with
    | none => rw [e1] at q; cases q
    | some a =>
      cases e2 : dat os e with
      | none => rw [e1, e2] at q; cases q
      | some a2 =>
        rw [e1, e2] at q
        dsimp only at q
        split at q
        · rename_i c
          rw [Bool.and_eq_true] at c
          obtain ⟨h1, h2⟩ := dat_at w r1 e1 c.1
          obtain ⟨h3, h4⟩ := dat_at w r2 e2 c.2
          exact ⟨_, _, h1, h3, h2, h4, Option.some.inj q⟩
        · cases q
  cases d with
  | own i => exact .inr (gen q)
  | p a =>
    cases e with
    | own i => exact .inr (gen (by cases a <;> exact q))
    | p c =>
      cases a with
      | int i =>
        cases c with
        | int j =>
          cases r1
          cases r2
          cases q
          refine .inl ⟨rfl, ?_⟩
          by_cases h : i = j
          · subst h; simp
          · simp [h]
        | _ => exact .inr (gen q)
      | str i =>
        cases c with
        | str j =>
          cases r1
          cases r2
          cases q
          refine .inl ⟨rfl, ?_⟩
          by_cases h : i = j
          · subst h; simp
          · simp [h]
        | _ => exact .inr (gen q)
      | bl i =>
        cases c with
        | bl j =>
          cases r1
          cases r2
          cases q
          refine .inl ⟨rfl, ?_⟩
          by_cases h : i = j
          · subst h; simp
          · simp [h]
        | _ => exact .inr (gen q)
      | _ => exact .inr (gen (by cases c <;> exact q))
abbrev rEqV (K : PySem.W.Frag) : R2 := fun x y H Q => rEq x y H Q ∨ rEqD K x y H Q
abbrev rNeV (K : PySem.W.Frag) : R2 := fun x y H Q => rNe x y H Q ∨ rNeD K x y H Q
theorem o_eq {X : Cx} (hu : X.A.units + 64 < cLine) : OpR X (compareOp .Eq) (rEqV X.K) := opr_or op_eq (op_eqD hu)
theorem o_ne {X : Cx} (hu : X.A.units + 64 < cLine) : OpR X (compareOp .NotEq) (rNeV X.K) := opr_or op_ne (op_neD hu)
theorem v_eq : Op2 K (rEqV K) eqX := by
  intro W F ad os H x y d e Q w r1 r2 q
  unfold eqX at q
  cases h : eqP d e os with
  | none => rw [h] at q; exact q.elim
  | some b =>
    rw [h] at q
    have q1 := q.now w (.bl b)
    rcases eq_core w r1 r2 h with ⟨h1, h2⟩ | ⟨u, v, h1, h2, h3, h4, h5⟩
    · exact .inl ⟨h1, by rw [h2]; exact q1⟩
    · exact .inr ⟨u, v, h1, h2, h3, h4, by rw [h5]; exact q1⟩
theorem v_ne : Op2 K (rNeV K) neX := by
  intro W F ad os H x y d e Q w r1 r2 q
  unfold neX at q
  cases h : eqP d e os with
  | none => rw [h] at q; exact q.elim
  | some b =>
    rw [h] at q
    have q1 := q.now w (.bl (!b))
    rcases eq_core w r1 r2 h with ⟨h1, h2⟩ | ⟨u, v, h1, h2, h3, h4, h5⟩
    · exact .inl ⟨h1, by rw [h2]; exact q1⟩
    · exact .inr ⟨u, v, h1, h2, h3, h4, by rw [h5]; exact q1⟩
end
end DL
/-! DLd: comparisons, containers, built-in functions by values. -/
namespace DL
open PySem PySem.Spec
open PyProof.Rows L2
section
variable {K : PySem.W.Frag}
/-! ### order -/
def ltS (a b : Str) : Bool := decide (a.cps.toList < b.cps.toList)
def cmpV (fi : Int → Int → Bool) (fs : Str → Str → Bool) (d e : D) : M D := fun os => match d, e with
  | .p (.int i), .p (.int j) => .ok (.p (.bl (fi i j))) os
  | .p (.str a), .p (.str b) => .ok (.p (.bl (fs a b))) os
  | _, _ => .bad
abbrev ltV : D → D → M D := cmpV (fun i j => decide (i < j)) (fun a b => ltS a b)
abbrev leV : D → D → M D := cmpV (fun i j => decide (i ≤ j)) (fun a b => !ltS b a)
abbrev gtV : D → D → M D := cmpV (fun i j => decide (j < i)) (fun a b => ltS b a)
abbrev geV : D → D → M D := cmpV (fun i j => decide (j ≤ i)) (fun a b => !ltS a b)
abbrev rCmp (fi : Int → Int → Bool) (fs : Str → Str → Bool) : R2 := fun x y H Q => (rI0 fun i j => .bl (fi i j)) x y H Q ∨ (∃ i j, x = .str i ∧ y = .str j ∧ Q (.bl (fs i j)) H)
theorem o_lt {X : Cx} : OpR X (compareOp .Lt) (rCmp (fun i j => decide (i < j)) (fun a b => ltS a b)) := opr_or op_lt op_lt_str
theorem o_le {X : Cx} : OpR X (compareOp .LtE) (rCmp (fun i j => decide (i ≤ j)) (fun a b => !ltS b a)) := opr_or op_le op_le_str
theorem o_gt {X : Cx} : OpR X (compareOp .Gt) (rCmp (fun i j => decide (j < i)) (fun a b => ltS b a)) := opr_or op_gt op_gt_str
theorem o_ge {X : Cx} : OpR X (compareOp .GtE) (rCmp (fun i j => decide (j ≤ i)) (fun a b => !ltS a b)) := opr_or op_ge op_ge_str
theorem v_cmp {fi : Int → Int → Bool} {fs : Str → Str → Bool} : Op2 K (rCmp fi fs) (cmpV fi fs) := by
  intro W F ad os H x y d e Q w r1 r2 q
  cases d with
  | own i => exact q.elim
  | p a =>
    cases e with
    | own i => cases a <;> exact q.elim
    | p b =>
      cases r1 with
      | int i =>
        cases r2 with
        | int j => exact .inl ⟨i, j, rfl, rfl, q.now w (.bl _)⟩
        | _ => exact q.elim
      | str i =>
        cases r2 with
        | str j => exact .inr ⟨i, j, rfl, rfl, q.now w (.bl _)⟩
        | _ => exact q.elim
      | _ => exact q.elim

/-! ### is -/
def isV (d e : D) : M D := fun os => match d, e with
  | .p a, .p .non => .ok (.p (.bl (match a with
    | .non => true
    | _ => false))) os
  | .own _, .p .non => .ok (.p (.bl false)) os
  | .p (.bl a), .p (.bl b) => .ok (.p (.bl (decide (a = b)))) os
  | _, _ => .bad
def isntV (d e : D) : M D := fun os => match d, e with
  | .p a, .p .non => .ok (.p (.bl (match a with
    | .non => false
    | _ => true))) os
  | .own _, .p .non => .ok (.p (.bl true)) os
  | .p (.bl a), .p (.bl b) => .ok (.p (.bl (!decide (a = b)))) os
  | _, _ => .bad
abbrev rIs : R2 := fun x y H Q => (y = .non ∧ Q (.bl (decide (x = .non))) H) ∨ ∃ a b, x = .bl a ∧ y = .bl b ∧ Q (.bl (decide (a = b))) H
abbrev rIsnt : R2 := fun x y H Q => (y = .non ∧ Q (.bl (!decide (x = .non))) H) ∨ ∃ a b, x = .bl a ∧ y = .bl b ∧ Q (.bl (!decide (a = b))) H
theorem o_is {X : Cx} : OpR X (compareOp .Is) rIs := opr_or op_isN op_is_bl
theorem o_isnt {X : Cx} : OpR X (compareOp .IsNot) rIsnt := opr_or op_notN op_isnot_bl
theorem v_is : Op2 K rIs isV := by
  intro W F ad os H x y d e Q w r1 r2 q
  cases e with
  | own i => exact (by cases d with
    | own j => exact q.elim
    | p a => cases a <;> exact q.elim)
  | p b =>
    cases d with
    | own j =>
      cases r2 with
      | non =>
        obtain ⟨a, _, rfl⟩ := r1
        exact .inl ⟨rfl, q.now w (.bl false)⟩
      | _ => exact q.elim
    | p a =>
      cases r2 with
      | non =>
        cases r1 <;> exact .inl ⟨rfl, q.now w (.bl _)⟩
      | bl c =>
        cases r1 with
        | bl e => exact .inr ⟨e, c, rfl, rfl, q.now w (.bl _)⟩
        | _ => exact q.elim
      | _ => exact (by cases a <;> exact q.elim)
theorem v_isnt : Op2 K rIsnt isntV := by
  intro W F ad os H x y d e Q w r1 r2 q
  cases e with
  | own i => exact (by cases d with
    | own j => exact q.elim
    | p a => cases a <;> exact q.elim)
  | p b =>
    cases d with
    | own j =>
      cases r2 with
      | non =>
        obtain ⟨a, _, rfl⟩ := r1
        exact .inl ⟨rfl, q.now w (.bl true)⟩
      | _ => exact q.elim
    | p a =>
      cases r2 with
      | non =>
        cases r1 <;> exact .inl ⟨rfl, q.now w (.bl _)⟩
      | bl c =>
        cases r1 with
        | bl e => exact .inr ⟨e, c, rfl, rfl, q.now w (.bl _)⟩
        | _ => exact q.elim
      | _ => exact (by cases a <;> exact q.elim)

/-! ### dicts read -/
inductive DD where
  | dk (kvs : List (Key × P)) | dt (kvs : List (List Key × P))
def dctOf (os : List O) : D → Option DD
  | .p (.dK kvs) => some (.dk kvs)
  | .p (.dT kvs) => some (.dt kvs)
  | .own i => match os[i]? with
    | some (.dK kvs) => some (.dk kvs)
    | some (.dT kvs) => some (.dt kvs)
    | _ => none
  | _ => none
def DD.look (dd : DD) (k : D) : Option (Option P) := match dd, k with
  | .dk kvs, .p k => (keyP k).map (dlook kvs)
  | .dt kvs, .p k => (tkeyP k).map (dlook kvs)
  | _, _ => none
def DD.len : DD → Nat
  | .dk kvs => kvs.length
  | .dt kvs => kvs.length
inductive DAt (K : PySem.W.Frag) (F H : Hp) (a : Addr) : DD → Prop
  | dk {kvs : List (Key × P)} {vs : List (Key × V)} : Rd H a (.dK vs) → RepKV K F kvs vs → DAt K F H a (.dk kvs)
  | dt {kvs : List (List Key × P)} {vs : List (List Key × V)} : Rd H a (.dT vs) → RepKV K F kvs vs → DAt K F H a (.dt kvs)
theorem dct_at {F : Hp} {ad : Ads} {os : List O} {H : Hp} {d : D} {v : V} {dd : DD} (w : Own K F ad os H) (r : RelD K F ad d v) (e : dctOf os d = some dd) : ∃ a, v = .ref a ∧ DAt K F H a dd := by
  cases d with
  | p x =>
    cases r with
    | dK h r =>
      cases e
      exact ⟨_, rfl, .dk (rd_mono w.same h) r⟩
    | dT h r =>
      cases e
      exact ⟨_, rfl, .dt (rd_mono w.same h) r⟩
    | _ => cases e
  | own i =>
    obtain ⟨a, ha, rfl⟩ := r
    unfold dctOf at e
    dsimp only at e
    cases q : os[i]? with
    | none => rw [q] at e; cases e
    | some o =>
      rw [q] at e
      obtain ⟨a', ha', ro⟩ := w.at_ q
      rw [ha] at ha'
      cases ha'
      cases o with
      | dK ys =>
        cases e
        obtain ⟨vs, h, r⟩ := ro
        exact ⟨a, rfl, .dk (.inl h) r⟩
      | dT ys =>
        cases e
        obtain ⟨vs, h, r⟩ := ro
        exact ⟨a, rfl, .dt (.inl h) r⟩
      | _ => cases e
theorem DAt.isD {F H : Hp} {a : Addr} {dd : DD} (h : DAt K F H a dd) : IsD H a := by
  cases h with
  | dk h _ => exact .inl ⟨_, h⟩
  | dt h _ => exact .inr ⟨_, h⟩
theorem DAt.get {F H : Hp} {ad : Ads} {a : Addr} {dd : DD} {k : D} {y : V} {o : Option P} (h : DAt K F H a dd) (s : Same F H) (r : RelD K F ad k y) (e : dd.look k = some o) : ∃ ov, DGet H a y ov ∧ ((o = none ∧ ov = none) ∨ ∃ p v, o = some p ∧ ov = some v ∧ Rep K F p v) := by
  cases k with
  | own i => cases dd <;> cases e
  | p k =>
    cases h with
    | dk h rr =>
      cases e1 : keyP k with
      | none => simp [DD.look, e1] at e
      | some key =>
        simp only [DD.look, e1, Option.map_some, Option.some.injEq] at e
        subst e
        refine ⟨_, .inl ⟨_, key, h, rep_key r e1, rfl⟩, ?_⟩
        rcases rr.look key with ⟨h1, h2⟩ | ⟨p, v, h1, h2, h3⟩
        · exact .inl ⟨h1, h2⟩
        · exact .inr ⟨p, v, h1, h2, h3⟩
    | dt h rr =>
      cases e1 : tkeyP k with
      | none => simp [DD.look, e1] at e
      | some key =>
        simp only [DD.look, e1, Option.map_some, Option.some.injEq] at e
        subst e
        obtain ⟨b, rfl, hb⟩ := rep_tkey r e1
        refine ⟨_, .inr ⟨_, key, b, h, rfl, s _ _ hb, rfl⟩, ?_⟩
        rcases rr.look key with ⟨h1, h2⟩ | ⟨p, v, h1, h2, h3⟩
        · exact .inl ⟨h1, h2⟩
        · exact .inr ⟨p, v, h1, h2, h3⟩

/-! ### in, not in -/
def pflat : P → Bool
  | .non => true
  | .bl _ => true
  | .int _ => true
  | .str _ => true
  | _ => false
def pfeq : P → P → Bool
  | .non, .non => true
  | .bl a, .bl b => a == b
  | .bl a, .int b => (if a then 1 else 0) == b
  | .int a, .bl b => a == (if b then 1 else 0)
  | .int a, .int b => a == b
  | .str a, .str b => a == b
  | _, _ => false
def oneSign (a : Str) : Option Nat := match a with
  | ⟨⟨[c]⟩⟩ => some c
  | _ => none
/-- x in xs; none: not told -/
def inP (d e : D) (os : List O) : Option Bool := match dctOf os e with
  | some dd => (dd.look d).map (·.isSome)
  | none => match d, e with
    | .p (.str a), .p (.str b) => (match oneSign a with
      | some c => some (decide (c ∈ b.cps.toList))
      | none => none)
    | .p x, e => (match seqOf os e with
      | some xs => if (pflat x && xs.all pflat) = true then some (xs.any fun y => pfeq y x) else (match lstOf os e with
        | some ys => if (pfit x && pfit (.lst ys)) = true then some (ys.any fun y => peq y x) else none
        | none => none)
      | none => none)
    | _, _ => none
def inV' (d e : D) : M D := fun os => match inP d e os with
  | some b => .ok (.p (.bl b)) os
  | none => .bad
def notinV (d e : D) : M D := fun os => match inP d e os with
  | some b => .ok (.p (.bl (!b))) os
  | none => .bad
theorem flat_rep {F : Hp} {p : P} {v : V} (r : Rep K F p v) (h : pflat p = true) : flatV v = true := by
  cases r with
  | non => rfl
  | bl => rfl
  | int => rfl
  | str => rfl
  | _ => cases h
theorem flat_reps {F : Hp} : ∀ {ps : List P} {vs : List V}, RepL K F ps vs → ps.all pflat = true → vs.all flatV = true
  | _, _, .nil, _ => rfl
  | _, _, .cons r t, h => by
    rw [List.all_cons, Bool.and_eq_true] at h
    rw [List.all_cons, Bool.and_eq_true]
    exact ⟨flat_rep r h.1, flat_reps t h.2⟩
theorem feq_rep {F : Hp} {p q : P} {v u : V} (r : Rep K F p v) (h : pflat p = true) (r' : Rep K F q u) (h' : pflat q = true) : eqV v u = pfeq p q := by
  cases r with
  | non => cases r' with
    | non => rfl
    | bl => rfl
    | int => rfl
    | str => rfl
    | _ => cases h'
  | bl => cases r' with
    | non => rfl
    | bl => rfl
    | int => rfl
    | str => rfl
    | _ => cases h'
  | int => cases r' with
    | non => rfl
    | bl => rfl
    | int => rfl
    | str => rfl
    | _ => cases h'
  | str => cases r' with
    | non => rfl
    | bl => rfl
    | int => rfl
    | str => rfl
    | _ => cases h'
  | _ => cases h
theorem any_rep {F : Hp} {q : P} {u : V} (r' : Rep K F q u) (h' : pflat q = true) : ∀ {ps : List P} {vs : List V}, RepL K F ps vs → ps.all pflat = true → inV u vs = (ps.any fun y => pfeq y q)
  | _, _, .nil, _ => rfl
  | _, _, .cons r t, h => by
    rw [List.all_cons, Bool.and_eq_true] at h
    have ih := any_rep r' h' t h.2
    unfold inV at ih ⊢
    rw [List.any_cons, List.any_cons, ih, feq_rep r h.1 r' h']
theorem any_py (x : P) : ∀ ys : List P, (pyL ys).any (fun y => PyData.eqv y (py x)) = ys.any fun y => peq y x
  | [] => rfl
  | y :: ys => by
    unfold pyL
    rw [List.any_cons, List.any_cons, any_py x ys]
    rfl
abbrev rInV (K : PySem.W.Frag) : R2 := fun y x H Q => ((∃ a o, x = .ref a ∧ DGet H a y o ∧ Q (.bl o.isSome) H) ∨ (∃ (c : Nat) (z : Str), y = .str ⟨#[c]⟩ ∧ x = .str z ∧ Q (.bl (decide (c ∈ z.cps.toList))) H)) ∨ (rIn K false y x H Q ∨ rInD K y x H Q)
abbrev rNotInV (K : PySem.W.Frag) : R2 := fun y x H Q => ((∃ a o, x = .ref a ∧ DGet H a y o ∧ Q (.bl (!o.isSome)) H) ∨ (∃ (c : Nat) (z : Str), y = .str ⟨#[c]⟩ ∧ x = .str z ∧ Q (.bl (!decide (c ∈ z.cps.toList))) H)) ∨ (rIn K true y x H Q ∨ rNotInD K y x H Q)
theorem op_inDct {X : Cx} (hu : X.A.units + 65 < cLine) : OpR X (compareOp .In) (fun y x H Q => ∃ a o, x = .ref a ∧ DGet H a y o ∧ Q (.bl o.isSome) H) := by
  intro pins s σ H y x v u Q I ry rx h
  obtain ⟨a, o, rfl, g, q⟩ := h
  obtain rfl : u = Value.ref a := rx
  exact d_in (by omega) I g ry fun s' I' => ⟨.bl _, H, I', rfl, q⟩
theorem op_notinDct {X : Cx} (hu : X.A.units + 65 < cLine) : OpR X (compareOp .NotIn) (fun y x H Q => ∃ a o, x = .ref a ∧ DGet H a y o ∧ Q (.bl (!o.isSome)) H) := by
  intro pins s σ H y x v u Q I ry rx h
  obtain ⟨a, o, rfl, g, q⟩ := h
  obtain rfl : u = Value.ref a := rx
  exact d_notIn (by omega) I g ry fun s' I' => ⟨.bl _, H, I', rfl, q⟩
theorem o_in {X : Cx} (hu : X.A.units + 65 < cLine) : OpR X (compareOp .In) (rInV X.K) := opr_or (opr_or (op_inDct hu) op_in_sign) (opr_or op_in_seq (op_inD hu))
theorem o_notin {X : Cx} (hu : X.A.units + 65 < cLine) : OpR X (compareOp .NotIn) (rNotInV X.K) := opr_or (opr_or (op_notinDct hu) op_notIn_sign) (opr_or op_notIn_seq (op_notInD hu))
theorem in_core {F : Hp} {ad : Ads} {os : List O} {H : Hp} {x y : V} {d e : D} {b : Bool} (w : Own K F ad os H) (r1 : RelD K F ad d x) (r2 : RelD K F ad e y) (q : inP d e os = some b) :
    ((∃ a o, y = .ref a ∧ DGet H a x o ∧ o.isSome = b) ∨ (∃ (c : Nat) (z : Str), x = .str ⟨#[c]⟩ ∧ y = .str z ∧ decide (c ∈ z.cps.toList) = b)) ∨
    ((∃ p xs, y = .ref p ∧ (SqL K H p xs ∨ SqT K H p xs) ∧ flatV x = true ∧ xs.all flatV = true ∧ inV x xs = b) ∨ (∃ u us, Dp K H x u ∧ Dp K H y (.list us) ∧ SeqAt.shaped u = true ∧ SeqAt.shaped (.list us) = true ∧ us.any (fun z => PyData.eqv z u) = b)) := by
  unfold inP at q
  cases e1 : dctOf os e with
  | some dd =>
    rw [e1] at q
    dsimp only at q
    cases e2 : dd.look d with
    | none => rw [e2] at q; cases q
    | some o =>
      rw [e2] at q
      obtain ⟨a, rfl, hd⟩ := dct_at w r2 e1
      obtain ⟨ov, g, c⟩ := hd.get w.same r1 e2
      refine .inl (.inl ⟨a, ov, rfl, g, ?_⟩)
      cases q
      rcases c with ⟨rfl, rfl⟩ | ⟨p, v, rfl, rfl, _⟩ <;> rfl
  | none =>
    rw [e1] at q
    cases d with
    | own i => cases q
    | p a =>
      have gen : (match seqOf os e with
      | some xs => if (pflat a && xs.all pflat) = true then some (xs.any fun y => pfeq y a) else (match lstOf os e with
        | some ys => if (pfit a && pfit (.lst ys)) = true then some (ys.any fun y => peq y a) else none
        | none => none)
      | none => none) = some b → ((∃ p xs, y = .ref p ∧ (SqL K H p xs ∨ SqT K H p xs) ∧ flatV x = true ∧ xs.all flatV = true ∧ inV x xs = b) ∨ (∃ u us, Dp K H x u ∧ Dp K H y (.list us) ∧ SeqAt.shaped u = true ∧ SeqAt.shaped (.list us) = true ∧ us.any (fun z => PyData.eqv z u) = b)) := fun q => by
        cases e2 : seqOf os e with
        | none => rw [e2] at q; cases q
        | some xs =>
          rw [e2] at q
          dsimp only at q
          split at q
          · rename_i c
            rw [Bool.and_eq_true] at c
            obtain ⟨p, vs, rfl, hs, rr⟩ := seq_at w r2 e2
            exact .inl ⟨p, vs, rfl, hs, flat_rep r1 c.1, flat_reps rr c.2, by rw [any_rep r1 c.1 rr c.2]; exact Option.some.inj q⟩
          · cases e3 : lstOf os e with
            | none => rw [e3] at q; cases q
            | some ys =>
              rw [e3] at q
              dsimp only at q
              split at q
              · rename_i c
                rw [Bool.and_eq_true] at c
                have hd : dat os e = some (.lst ys) := by
                  cases e with
                  | p z =>
                    cases z with
                    | lst zs => cases e3; rfl
                    | _ => cases e3
                  | own i =>
                    unfold lstOf at e3
                    dsimp only at e3
                    unfold dat
                    dsimp only
                    cases h : os[i]? with
                    | none => rw [h] at e3; cases e3
                    | some o =>
                      rw [h] at e3
                      cases o with
                      | lst zs => cases e3; rfl
                      | _ => cases e3
                obtain ⟨h1, h2⟩ := dat_at w (d := .p a) r1 rfl c.1
                obtain ⟨h3, h4⟩ := dat_at w r2 hd c.2
                have hp : py (.lst ys) = .list (pyL ys) := by unfold py; rfl
                rw [hp] at h3 h4
                exact .inr ⟨_, _, h1, h3, h2, h4, by rw [any_py]; exact Option.some.inj q⟩
              · cases q
      cases e with
      | own i => exact .inr (gen (by cases a <;> exact q))
      | p c =>
        cases a with
        | str s =>
          cases c with
          | str z =>
            cases r1
            cases r2
            dsimp only at q
            obtain ⟨⟨l⟩⟩ := s
            match l, q with
            | [k], q =>
              exact .inl (.inr ⟨k, z, rfl, rfl, Option.some.inj q⟩)
            | [], q => cases q
            | _ :: _ :: _, q => cases q
          | _ => exact .inr (gen q)
        | _ => exact .inr (gen q)
theorem v_in : Op2 K (rInV K) inV' := by
  intro W F ad os H x y d e Q w r1 r2 q
  unfold inV' at q
  cases h : inP d e os with
  | none => rw [h] at q; exact q.elim
  | some b =>
    rw [h] at q
    have q1 := q.now w (.bl b)
    rcases in_core w r1 r2 h with (⟨a, o, h1, h2, rfl⟩ | ⟨c, z, h1, h2, rfl⟩) | (⟨p, xs, h1, h2, h3, h4, rfl⟩ | ⟨u, us, h1, h2, h3, h4, rfl⟩)
    · exact .inl (.inl ⟨a, o, h1, h2, q1⟩)
    · exact .inl (.inr ⟨c, z, h1, h2, q1⟩)
    · exact .inr (.inl ⟨p, xs, h1, h2, h3, h4, q1⟩)
    · exact .inr (.inr ⟨u, us, h1, h2, h3, h4, q1⟩)
theorem v_notin : Op2 K (rNotInV K) notinV := by
  intro W F ad os H x y d e Q w r1 r2 q
  unfold notinV at q
  cases h : inP d e os with
  | none => rw [h] at q; exact q.elim
  | some b =>
    rw [h] at q
    have q1 := q.now w (.bl (!b))
    rcases in_core w r1 r2 h with (⟨a, o, h1, h2, rfl⟩ | ⟨c, z, h1, h2, rfl⟩) | (⟨p, xs, h1, h2, h3, h4, rfl⟩ | ⟨u, us, h1, h2, h3, h4, rfl⟩)
    · exact .inl (.inl ⟨a, o, h1, h2, q1⟩)
    · exact .inl (.inr ⟨c, z, h1, h2, q1⟩)
    · exact .inr (.inl ⟨p, xs, h1, h2, h3, h4, q1⟩)
    · exact .inr (.inr ⟨u, us, h1, h2, h3, h4, q1⟩)
end
end DL
/-! DLe: built-in functions, places, slices, methods by values. -/
namespace DL
open PySem PySem.Spec
open PyProof.Rows L2

/-! ### sorting -/
theorem ltCps_anti : ∀ a b : List Nat, ltCps a b = false → ltCps b a = false → a = b
  | [], [], _, _ => rfl
  | [], _ :: _, h, _ => by simp [ltCps] at h
  | _ :: _, [], _, h => by simp [ltCps] at h
  | a :: r, b :: t, h, h' => by
    simp only [ltCps, Bool.or_eq_false_iff, decide_eq_false_iff_not, Bool.and_eq_false_iff, beq_eq_false_iff_ne] at h h'
    have e : a = b := by omega
    subst e
    have h1 : ltCps r t = false := by
      rcases h.2 with q | q
      · exact absurd rfl q
      · exact q
    have h2 : ltCps t r = false := by
      rcases h'.2 with q | q
      · exact absurd rfl q
      · exact q
    rw [ltCps_anti r t h1 h2]
theorem leCps_trans : ∀ a b c : List Nat, ltCps b a = false → ltCps c b = false → ltCps c a = false
  | [], _, [], _, _ => rfl
  | [], _, _ :: _, _, _ => rfl
  | _ :: _, [], _, h, _ => by simp [ltCps] at h
  | a :: r, b :: t, [], _, h => by simp [ltCps] at h
  | a :: r, b :: t, c :: u, h, h' => by
    simp only [ltCps, Bool.or_eq_false_iff, decide_eq_false_iff_not, Bool.and_eq_false_iff, beq_eq_false_iff_ne] at h h' ⊢
    refine ⟨by omega, ?_⟩
    by_cases e : c = a
    · right
      have e1 : b = a := by omega
      have e2 : c = b := by omega
      exact leCps_trans r t u (h.2.resolve_left (fun z => z e1)) (h'.2.resolve_left (fun z => z e2))
    · exact .inl e
theorem leCps_total : ∀ a b : List Nat, ltCps b a = false ∨ ltCps a b = false
  | [], [] => .inl rfl
  | [], _ :: _ => .inl rfl
  | _ :: _, [] => .inr rfl
  | a :: r, b :: t => by
    simp only [ltCps, Bool.or_eq_false_iff, decide_eq_false_iff_not, Bool.and_eq_false_iff, beq_eq_false_iff_ne]
    by_cases h : b = a
    · subst h
      rcases leCps_total r t with q | q
      · exact .inl ⟨by omega, .inr q⟩
      · exact .inr ⟨by omega, .inr q⟩
    · by_cases h2 : b < a
      · exact .inr ⟨by omega, .inl (by omega)⟩
      · exact .inl ⟨by omega, .inl h⟩
def leS (a b : Str) : Bool := !ltCps b.cps.toList a.cps.toList
def sortS (l : List Str) : List Str := l.mergeSort leS
def sortI (l : List Int) : List Int := l.mergeSort fun a b => decide (a ≤ b)
theorem leS_trans (a b c : Str) (h : leS a b = true) (h' : leS b c = true) : leS a c = true := by
  unfold leS at *
  rw [Bool.not_eq_true'] at *
  exact leCps_trans _ _ _ h h'
theorem leS_total (a b : Str) : (leS a b || leS b a) = true := by
  unfold leS
  rcases leCps_total a.cps.toList b.cps.toList with h | h <;> simp [h]
theorem leS_anti (a b : Str) (h : leS a b = true) (h' : leS b a = true) : a = b := by
  unfold leS at *
  rw [Bool.not_eq_true'] at *
  have e := ltCps_anti _ _ h' h
  obtain ⟨⟨l⟩⟩ := a
  obtain ⟨⟨m⟩⟩ := b
  simp at e
  rw [e]
theorem rising_pw : ∀ (p : Str) (l : List Str), risingS p l = true → (p :: l).Pairwise fun a b => leS a b = true
  | p, [], _ => List.pairwise_singleton _ _
  | p, x :: r, h => by
    unfold risingS at h
    rw [Bool.and_eq_true] at h
    have ih := rising_pw x r h.2
    refine List.pairwise_cons.mpr ⟨fun y hy => ?_, ih⟩
    rcases List.mem_cons.mp hy with rfl | hy
    · exact h.1
    · exact leS_trans p x y h.1 ((List.pairwise_cons.mp ih).1 y hy)
theorem sorted_pw : ∀ l : List Str, sortedS l = true → l.Pairwise fun a b => leS a b = true
  | [], _ => .nil
  | x :: r, h => rising_pw x r h
theorem sortS_of {l m : List Str} (hp : m.Perm l) (hs : sortedS m = true) : m = sortS l :=
  List.Perm.eq_of_pairwise (le := fun a b => leS a b = true) (fun a b _ _ h h' => leS_anti a b h h') (sorted_pw m hs) (List.pairwise_mergeSort leS_trans leS_total l) (hp.trans (List.mergeSort_perm l leS).symm)
theorem sortI_of {l m : List Int} (hp : m.Perm l) (hs : m.Pairwise (· ≤ ·)) : m = sortI l := by
  refine List.Perm.eq_of_pairwise (le := fun a b : Int => a ≤ b) (fun a b _ _ h h' => Int.le_antisymm h h') hs ?_ (hp.trans (List.mergeSort_perm l _).symm)
  have := List.pairwise_mergeSort (le := fun a b : Int => decide (a ≤ b)) (fun a b c h h' => by simp at *; omega) (fun a b => by simp; omega) l
  exact this.imp fun h => by simpa using h

/-! ### items of one kind -/
def intsOf : List P → Option (List Int)
  | [] => some []
  | .int i :: ps => (intsOf ps).map (i :: ·)
  | _ => none
def strsOf : List P → Option (List Str)
  | [] => some []
  | .str i :: ps => (strsOf ps).map (i :: ·)
  | _ => none
def blsOf : List P → Option (List Bool)
  | [] => some []
  | .bl i :: ps => (blsOf ps).map (i :: ·)
  | _ => none
@[simp] theorem intsOf_map : ∀ l : List Int, intsOf (l.map P.int) = some l
  | [] => rfl
  | x :: l => by simp [intsOf, intsOf_map l]
@[simp] theorem strsOf_map : ∀ l : List Str, strsOf (l.map P.str) = some l
  | [] => rfl
  | x :: l => by simp [strsOf, strsOf_map l]
@[simp] theorem blsOf_map : ∀ l : List Bool, blsOf (l.map P.bl) = some l
  | [] => rfl
  | x :: l => by simp [blsOf, blsOf_map l]
section
variable {K : PySem.W.Frag} {F : Hp}
theorem intsOf_rep : ∀ {ps : List P} {vs : List V} {ns : List Int}, intsOf ps = some ns → RepL K F ps vs → vs = ns.map V.int := fun {ps} => by
  induction ps with
  | nil =>
    intro vs ns e r
    cases r
    cases e
    rfl
  | cons p ps ih =>
    intro vs ns e r
    cases r with
    | cons r t =>
      cases r with
      | int i =>
        cases h : intsOf ps with
        | none => simp [intsOf, h] at e
        | some ms =>
          simp [intsOf, h] at e
          subst e
          rw [ih h t]
          rfl
      | _ => cases e
theorem strsOf_rep : ∀ {ps : List P} {vs : List V} {ns : List Str}, strsOf ps = some ns → RepL K F ps vs → vs = ns.map V.str := fun {ps} => by
  induction ps with
  | nil =>
    intro vs ns e r
    cases r
    cases e
    rfl
  | cons p ps ih =>
    intro vs ns e r
    cases r with
    | cons r t =>
      cases r with
      | str i =>
        cases h : strsOf ps with
        | none => simp [strsOf, h] at e
        | some ms =>
          simp [strsOf, h] at e
          subst e
          rw [ih h t]
          rfl
      | _ => cases e
theorem blsOf_rep : ∀ {ps : List P} {vs : List V} {ns : List Bool}, blsOf ps = some ns → RepL K F ps vs → vs = ns.map V.bl := fun {ps} => by
  induction ps with
  | nil =>
    intro vs ns e r
    cases r
    cases e
    rfl
  | cons p ps ih =>
    intro vs ns e r
    cases r with
    | cons r t =>
      cases r with
      | bl i =>
        cases h : blsOf ps with
        | none => simp [blsOf, h] at e
        | some ms =>
          simp [blsOf, h] at e
          subst e
          rw [ih h t]
          rfl
      | _ => cases e
theorem rep_strs : ∀ ns : List Str, RepL K F (ns.map P.str) (ns.map V.str)
  | [] => .nil
  | n :: ns => .cons (.str n) (rep_strs ns)
end

/-! ### built-in functions -/
/-- one argument -/
def fn1 {α : Type} (g : D → M α) (ds : List D) : M α := match ds with
  | [d] => g d
  | _ => M.bad
def fn2 {α : Type} (g : D → D → M α) (ds : List D) : M α := match ds with
  | [d, e] => g d e
  | _ => M.bad
def lenO (d : D) (os : List O) : Option Nat := match dctOf os d with
  | some dd => some dd.len
  | none => match d with
    | .p (.str z) => if z.length ≤ sizeLine then some z.length else none
    | d => (seqOf os d).map (·.length)
def lenV (d : D) : M D := fun os => match lenO d os with
  | some n => .ok (.p (.int n)) os
  | none => .bad
def allV (d : D) : M D := fun os => match lstOf os d with
  | some xs => (match blsOf xs with
    | some bs => .ok (.p (.bl (bs.all id))) os
    | none => .bad)
  | none => .bad
def anyV (d : D) : M D := fun os => match lstOf os d with
  | some xs => (match blsOf xs with
    | some bs => .ok (.p (.bl (bs.any id))) os
    | none => .bad)
  | none => .bad
def sumV (d : D) : M D := fun os => match lstOf os d with
  | some xs => (match intsOf xs with
    | some bs => .ok (.p (.int bs.sum)) os
    | none => .bad)
  | none => .bad
/-- the greatest of x and l -/
def maxI (x : Int) (l : List Int) : Int := l.foldl (fun a b => if b > a then b else a) x
def minI (x : Int) (l : List Int) : Int := l.foldl (fun a b => if b < a then b else a) x
def maxV (d : D) : M D := fun os => match lstOf os d with
  | some xs => (match intsOf xs with
    | some (b :: bs) => .ok (.p (.int (maxI b bs))) os
    | _ => .bad)
  | none => .bad
def minV (d : D) : M D := fun os => match lstOf os d with
  | some xs => (match intsOf xs with
    | some (b :: bs) => .ok (.p (.int (minI b bs))) os
    | _ => .bad)
  | none => .bad
def max2V (d e : D) : M D := fun os => match d, e with
  | .p (.int i), .p (.int j) => .ok (.p (.int (if j > i then j else i))) os
  | _, _ => .bad
def min2V (d e : D) : M D := fun os => match d, e with
  | .p (.int i), .p (.int j) => .ok (.p (.int (if j < i then j else i))) os
  | _, _ => .bad
def absV (d : D) : M D := fun os => match d with
  | .p (.int i) => .ok (.p (.int (if i < 0 then -i else i))) os
  | _ => .bad
def intV (d : D) : M D := fun os => match d with
  | .p (.int i) => .ok (.p (.int i)) os
  | .p (.bl b) => .ok (.p (.int (if b then 1 else 0))) os
  | .p (.str z) => if z.length ≤ 640 then (match PySem.intText? z with
    | some n => .ok (.p (.int n)) os
    | none => .bad) else .bad
  | _ => .bad
def strV (d : D) : M D := fun os => match d with
  | .p (.int i) => if i.natAbs.log2 < 1920 then .ok (.p (.str (toString i))) os else .bad
  | .p (.str z) => .ok (.p (.str z)) os
  | _ => .bad
/-- list(x) -/
def listV (d : D) : M (List P) := fun os => match d with
  | .p (.dK kvs) => .ok (kvs.map fun kv => pkey kv.1) os
  | d => match seqOf os d with
    | some xs => .ok xs os
    | none => .bad
def tupleV (d : D) : M D := fun os => match d with
  | .p (.tup xs) => .ok (.p (.tup xs)) os
  | d => match lstOf os d with
    | some xs => .ok (.p (.tup xs)) os
    | none => .bad
def keysS : List Key → Option (List Str)
  | [] => some []
  | .inr x :: ks => (keysS ks).map (x :: ·)
  | _ => none
def keysI : List Key → Option (List Int)
  | [] => some []
  | .inl x :: ks => (keysI ks).map (x :: ·)
  | _ => none
def sortedV (d : D) : M (List P) := fun os => match dctOf os d with
  | some (.dk kvs) => (match keysS (kvs.map (·.1)) with
    | some ks => if ks.length < 64 then .ok ((sortS ks).map P.str) os else .bad
    | none => match keysI (kvs.map (·.1)) with
      | some ks => if ks.length < 64 then .ok ((sortI ks).map P.int) os else .bad
      | none => .bad)
  | some _ => .bad
  | none => match lstOf os d with
    | some xs => (match strsOf xs with
      | some ss => if ss.length < 64 then .ok ((sortS ss).map P.str) os else .bad
      | none => match intsOf xs with
        | some ns => .ok ((sortI ns).map P.int) os
        | none => .bad)
    | none => .bad
theorem keysS_of : ∀ {l : List Key} {ks : List Str}, keysS l = some ks → l = ks.map Sum.inr
  | [], _, e => by cases e; rfl
  | .inr x :: l, ks, e => by
    cases h : keysS l with
    | none => simp [keysS, h] at e
    | some ms =>
      simp [keysS, h] at e
      subst e
      rw [keysS_of h]
      rfl
  | .inl _ :: _, _, e => by cases e
theorem keysI_of : ∀ {l : List Key} {ks : List Int}, keysI l = some ks → l = ks.map Sum.inl
  | [], _, e => by cases e; rfl
  | .inl x :: l, ks, e => by
    cases h : keysI l with
    | none => simp [keysI, h] at e
    | some ms =>
      simp [keysI, h] at e
      subst e
      rw [keysI_of h]
      rfl
  | .inr _ :: _, _, e => by cases e
theorem maxI_ge (l : List Int) : ∀ x : Int, x ≤ maxI x l ∧ (∀ y ∈ l, y ≤ maxI x l) ∧ (maxI x l = x ∨ maxI x l ∈ l) := by
  induction l with
  | nil => intro x; exact ⟨Int.le_refl _, (fun y h => by cases h), .inl rfl⟩
  | cons a l ih =>
    intro x
    have e : maxI x (a :: l) = maxI (if a > x then a else x) l := rfl
    rw [e]
    have hz : ∀ z : Int, z = (if a > x then a else x) → x ≤ z ∧ a ≤ z ∧ (z = x ∨ z = a) := fun z h => by
      subst h
      split
      · exact ⟨by omega, by omega, .inr rfl⟩
      · exact ⟨by omega, by omega, .inl rfl⟩
    generalize hzz : (if a > x then a else x) = z at *
    obtain ⟨q1, q2, q3⟩ := hz z rfl
    obtain ⟨h1, h2, h3⟩ := ih z
    refine ⟨by omega, fun y hy => ?_, ?_⟩
    · rcases List.mem_cons.mp hy with rfl | hy
      · omega
      · exact h2 y hy
    · rcases h3 with h3 | h3
      · rw [h3]
        rcases q3 with q3 | q3
        · exact .inl q3
        · rw [q3]; exact .inr (List.mem_cons_self)
      · exact .inr (List.mem_cons_of_mem _ h3)
theorem minI_le (l : List Int) : ∀ x : Int, minI x l ≤ x ∧ (∀ y ∈ l, minI x l ≤ y) ∧ (minI x l = x ∨ minI x l ∈ l) := by
  induction l with
  | nil => intro x; exact ⟨Int.le_refl _, (fun y h => by cases h), .inl rfl⟩
  | cons a l ih =>
    intro x
    have e : minI x (a :: l) = minI (if a < x then a else x) l := rfl
    rw [e]
    have hz : ∀ z : Int, z = (if a < x then a else x) → z ≤ x ∧ z ≤ a ∧ (z = x ∨ z = a) := fun z h => by
      subst h
      split
      · exact ⟨by omega, by omega, .inr rfl⟩
      · exact ⟨by omega, by omega, .inl rfl⟩
    generalize hzz : (if a < x then a else x) = z at *
    obtain ⟨q1, q2, q3⟩ := hz z rfl
    obtain ⟨h1, h2, h3⟩ := ih z
    refine ⟨by omega, fun y hy => ?_, ?_⟩
    · rcases List.mem_cons.mp hy with rfl | hy
      · omega
      · exact h2 y hy
    · rcases h3 with h3 | h3
      · rw [h3]
        rcases q3 with q3 | q3
        · exact .inl q3
        · rw [q3]; exact .inr (List.mem_cons_self)
      · exact .inr (List.mem_cons_of_mem _ h3)
theorem max_of {m b : Int} {bs : List Int} (h1 : m ∈ b :: bs) (h2 : ∀ y, y ∈ b :: bs → y ≤ m) : m = maxI b bs := by
  obtain ⟨g1, g2, g3⟩ := maxI_ge bs b
  have a1 : m ≤ maxI b bs := by
    rcases List.mem_cons.mp h1 with rfl | h
    · exact g1
    · exact g2 m h
  have a2 : maxI b bs ≤ m := by
    rcases g3 with h | h
    · rw [h]; exact h2 b (List.mem_cons_self)
    · exact h2 _ (List.mem_cons_of_mem _ h)
  omega
theorem min_of {m b : Int} {bs : List Int} (h1 : m ∈ b :: bs) (h2 : ∀ y, y ∈ b :: bs → m ≤ y) : m = minI b bs := by
  obtain ⟨g1, g2, g3⟩ := minI_le bs b
  have a1 : minI b bs ≤ m := by
    rcases List.mem_cons.mp h1 with rfl | h
    · exact g1
    · exact g2 m h
  have a2 : m ≤ minI b bs := by
    rcases g3 with h | h
    · rw [h]; exact h2 b (List.mem_cons_self)
    · exact h2 _ (List.mem_cons_of_mem _ h)
  omega

section
variable {X : Cx} {K : PySem.W.Frag}
theorem cr_or {f : Value} {r r' : List V → Hp → VK → Prop} (h : CallR X f r) (h' : CallR X f r') : CallR X f (fun xs H Q => r xs H Q ∨ r' xs H Q) := by
  intro pins s σ H xs us Q I rx q
  rcases q with q | q
  · exact h pins s σ H xs us Q I rx q
  · exact h' pins s σ H xs us Q I rx q
abbrev rLenW (K : PySem.W.Frag) : List V → Hp → VK → Prop := fun xs H Q => (∃ x n, xs = [x] ∧ LenV K x H n ∧ Q (.int n) H) ∨ ((∃ a kvs, xs = [V.ref a] ∧ Rd H a (.dK kvs) ∧ Q (.int kvs.length) H) ∨ ∃ a kvs, xs = [V.ref a] ∧ Rd H a (.dT kvs) ∧ Q (.int kvs.length) H)
theorem c_len : CallR X (.builtin "len") (rLenW X.K) := by
  refine cr_or call_len (cr_or ?_ ?_)
  · intro pins s σ H xs us Q I r h
    obtain ⟨a, kvs, rfl, ha, q⟩ := h
    obtain ⟨u, rfl, ru⟩ := vals1 r
    cases ru
    exact d_len I ha fun t s' I' => ⟨.int kvs.length, H, I', ⟨t, rfl⟩, q⟩
  · intro pins s σ H xs us Q I r h
    obtain ⟨p, kvs, rfl, hp, q⟩ := h
    obtain ⟨u, rfl, ru⟩ := vals1 r
    obtain rfl : u = .ref p := ru
    obtain ⟨z, hd, ys, rel, dd⟩ := dt_rd I.hok hp
    have hl : kvs.length = ys.length := Paired.length rel
    refine call_len_dictH hd dd (by rw [← hl]; rw [sizeLine_eq] at z; omega) ?_
    rw [← hl]
    exact ⟨.int ((kvs.length : Nat) : Int), H, I.tok _, ⟨_, rfl⟩, q⟩
theorem vs1 {F : Hp} {ad : Ads} {d : D} {xs : List V} (r : RelDs K F ad [d] xs) : ∃ x, xs = [x] ∧ RelD K F ad d x := by
  cases r with
  | cons h t => cases t; exact ⟨_, rfl, h⟩
theorem vs2 {F : Hp} {ad : Ads} {d e : D} {xs : List V} (r : RelDs K F ad [d, e] xs) : ∃ x y, xs = [x, y] ∧ RelD K F ad d x ∧ RelD K F ad e y := by
  cases r with
  | cons h t => cases t with
    | cons h' t => cases t; exact ⟨_, _, rfl, h, h'⟩
/-- a function of one argument, of two -/
theorem n_1 {r : List V → Hp → VK → Prop} {g : D → M D} (h : ∀ (W : XK) (F : Hp) (ad : Ads) (os : List O) (H : Hp) (x : V) (d : D) (Q : VK), Own K F ad os H → RelD K F ad d x → OutE K W F ad Q (g d os) → r [x] H Q) : OpN K r (fn1 g) := by
  intro W F ad os H xs ds Q w rx q
  match ds, rx, q with
  | [d], rx, q =>
    obtain ⟨x, rfl, r1⟩ := vs1 rx
    exact h W F ad os H x d Q w r1 q
  | [], _, q => exact q.elim
  | _ :: _ :: _, _, q => exact q.elim
theorem n_1F {r : List V → Hp → VK → Prop} {g : D → M (List P)} (h : ∀ (W : XK) (F : Hp) (ad : Ads) (os : List O) (H : Hp) (x : V) (d : D) (Q : VK), Own K F ad os H → RelD K F ad d x → OutF K W F ad Q (g d os) → r [x] H Q) : OpFN K r (fn1 g) := by
  intro W F ad os H xs ds Q w rx q
  match ds, rx, q with
  | [d], rx, q =>
    obtain ⟨x, rfl, r1⟩ := vs1 rx
    exact h W F ad os H x d Q w r1 q
  | [], _, q => exact q.elim
  | _ :: _ :: _, _, q => exact q.elim
theorem n_2 {r : List V → Hp → VK → Prop} {g : D → D → M D} (h : ∀ (W : XK) (F : Hp) (ad : Ads) (os : List O) (H : Hp) (x y : V) (d e : D) (Q : VK), Own K F ad os H → RelD K F ad d x → RelD K F ad e y → OutE K W F ad Q (g d e os) → r [x, y] H Q) : OpN K r (fn2 g) := by
  intro W F ad os H xs ds Q w rx q
  match ds, rx, q with
  | [d, e], rx, q =>
    obtain ⟨x, y, rfl, r1, r2⟩ := vs2 rx
    exact h W F ad os H x y d e Q w r1 r2 q
  | [], _, q => exact q.elim
  | [_], _, q => exact q.elim
  | _ :: _ :: _ :: _, _, q => exact q.elim
theorem n_len : OpN K (rLenW K) (fn1 lenV) := n_1 fun W F ad os H x d Q w r1 q => by
  unfold lenV at q
  cases hl : lenO d os with
  | none => rw [hl] at q; exact q.elim
  | some n =>
    rw [hl] at q
    have q1 := q.now w (.int _)
    unfold lenO at hl
    cases e : dctOf os d with
    | some dd =>
      rw [e] at hl
      cases hl
      obtain ⟨a, rfl, h⟩ := dct_at w r1 e
      cases h with
      | dk h r => exact .inr (.inl ⟨a, _, rfl, h, by rw [r.length]; exact q1⟩)
      | dt h r => exact .inr (.inr ⟨a, _, rfl, h, by rw [r.length]; exact q1⟩)
    | none =>
      rw [e] at hl
      have gen : (seqOf os d).map (·.length) = some n → rLenW K [x] H Q := fun hl => by
        cases e2 : seqOf os d with
        | none => rw [e2] at hl; cases hl
        | some xs =>
          rw [e2] at hl
          cases hl
          obtain ⟨a, vs, rfl, h, r⟩ := seq_at w r1 e2
          refine .inl ⟨_, vs.length, rfl, ?_, by rw [r.length]; exact q1⟩
          rcases h with h | h
          · exact .inl ⟨vs, h, rfl⟩
          · exact .inr ⟨vs, h, rfl⟩
      cases d with
      | own i => exact gen hl
      | p a =>
        cases r1 with
        | str z =>
          dsimp only at hl
          split at hl
          · rename_i hz
            cases hl
            exact .inl ⟨_, z.length, rfl, ⟨hz, rfl⟩, q1⟩
          · cases hl
        | _ => exact gen hl
theorem n_all : OpN K (rAll K) (fn1 allV) := n_1 fun W F ad os H x d Q w r1 q => by
  unfold allV at q
  cases e : lstOf os d with
  | none => rw [e] at q; exact q.elim
  | some xs =>
    rw [e] at q
    dsimp only at q
    cases e2 : blsOf xs with
    | none => rw [e2] at q; exact q.elim
    | some bs =>
      rw [e2] at q
      obtain ⟨a, vs, rfl, h, r⟩ := lst_at w r1 e
      rw [blsOf_rep e2 r] at h
      exact ⟨a, bs, rfl, .of h, q.now w (.bl _)⟩
theorem n_any : OpN K (rAny K) (fn1 anyV) := n_1 fun W F ad os H x d Q w r1 q => by
  unfold anyV at q
  cases e : lstOf os d with
  | none => rw [e] at q; exact q.elim
  | some xs =>
    rw [e] at q
    dsimp only at q
    cases e2 : blsOf xs with
    | none => rw [e2] at q; exact q.elim
    | some bs =>
      rw [e2] at q
      obtain ⟨a, vs, rfl, h, r⟩ := lst_at w r1 e
      rw [blsOf_rep e2 r] at h
      exact ⟨a, bs, rfl, .of h, q.now w (.bl _)⟩
theorem n_sum : OpN K (rSum K) (fn1 sumV) := n_1 fun W F ad os H x d Q w r1 q => by
  unfold sumV at q
  cases e : lstOf os d with
  | none => rw [e] at q; exact q.elim
  | some xs =>
    rw [e] at q
    dsimp only at q
    cases e2 : intsOf xs with
    | none => rw [e2] at q; exact q.elim
    | some bs =>
      rw [e2] at q
      obtain ⟨a, vs, rfl, h, r⟩ := lst_at w r1 e
      rw [intsOf_rep e2 r] at h
      exact ⟨a, bs, rfl, .of h, q.now w (.int _)⟩
theorem n_max : OpN K (rMax K) (fn1 maxV) := n_1 fun W F ad os H x d Q w r1 q => by
  unfold maxV at q
  cases e : lstOf os d with
  | none => rw [e] at q; exact q.elim
  | some xs =>
    rw [e] at q
    dsimp only at q
    cases e2 : intsOf xs with
    | none => rw [e2] at q; exact q.elim
    | some bs =>
      rw [e2] at q
      obtain ⟨a, vs, rfl, h, r⟩ := lst_at w r1 e
      rw [intsOf_rep e2 r] at h
      cases bs with
      | nil => exact q.elim
      | cons b bs => exact ⟨a, _, rfl, .of h, by simp, fun m h1 h2 => by rw [max_of h1 h2]; exact q.now w (.int _)⟩
theorem n_min : OpN K (rMin K) (fn1 minV) := n_1 fun W F ad os H x d Q w r1 q => by
  unfold minV at q
  cases e : lstOf os d with
  | none => rw [e] at q; exact q.elim
  | some xs =>
    rw [e] at q
    dsimp only at q
    cases e2 : intsOf xs with
    | none => rw [e2] at q; exact q.elim
    | some bs =>
      rw [e2] at q
      obtain ⟨a, vs, rfl, h, r⟩ := lst_at w r1 e
      rw [intsOf_rep e2 r] at h
      cases bs with
      | nil => exact q.elim
      | cons b bs => exact ⟨a, _, rfl, .of h, by simp, fun m h1 h2 => by rw [min_of h1 h2]; exact q.now w (.int _)⟩
theorem n_max2 : OpN K (fun xs H Q => ∃ i j, xs = [.int i, .int j] ∧ Q (.int (if j > i then j else i)) H) (fn2 max2V) := n_2 fun W F ad os H x y d e Q w r1 r2 q => by
  cases d with
  | own i => exact q.elim
  | p a =>
    cases e with
    | own i => cases a <;> exact q.elim
    | p b =>
      cases r1 with
      | int i =>
        cases r2 with
        | int j => exact ⟨i, j, rfl, q.now w (.int _)⟩
        | _ => exact q.elim
      | _ => exact q.elim
theorem n_min2 : OpN K (fun xs H Q => ∃ i j, xs = [.int i, .int j] ∧ Q (.int (if j < i then j else i)) H) (fn2 min2V) := n_2 fun W F ad os H x y d e Q w r1 r2 q => by
  cases d with
  | own i => exact q.elim
  | p a =>
    cases e with
    | own i => cases a <;> exact q.elim
    | p b =>
      cases r1 with
      | int i =>
        cases r2 with
        | int j => exact ⟨i, j, rfl, q.now w (.int _)⟩
        | _ => exact q.elim
      | _ => exact q.elim
theorem n_abs : OpN K (fun xs H Q => ∃ i, xs = [.int i] ∧ Q (.int (if i < 0 then -i else i)) H) (fn1 absV) := n_1 fun W F ad os H x d Q w r1 q => by
  cases d with
  | own i => exact q.elim
  | p a =>
    cases r1 with
    | int i => exact ⟨i, rfl, q.now w (.int _)⟩
    | _ => exact q.elim
abbrev rIntW : List V → Hp → VK → Prop := fun xs H Q => ((∃ i, xs = [.int i] ∧ Q (.int i) H) ∨ ∃ k, xs = [.bl k] ∧ Q (.int (if k then 1 else 0)) H) ∨ (∃ a n, xs = [.str a] ∧ PySem.intText? a = some n ∧ a.length ≤ 640 ∧ Q (.int n) H)
theorem c_int : CallR X (.type "int") rIntW := cr_or call_int1 call_int_str
theorem n_int : OpN K rIntW (fn1 intV) := n_1 fun W F ad os H x d Q w r1 q => by
  cases d with
  | own i => exact q.elim
  | p a =>
    cases r1 with
    | int i => exact .inl (.inl ⟨i, rfl, q.now w (.int _)⟩)
    | bl b => exact .inl (.inr ⟨b, rfl, q.now w (.int _)⟩)
    | str z =>
      unfold intV at q
      dsimp only at q
      split at q
      · rename_i hl
        cases e : PySem.intText? z with
        | none => rw [e] at q; exact q.elim
        | some n =>
          rw [e] at q
          exact .inr ⟨z, n, rfl, e, hl, q.now w (.int _)⟩
      · exact q.elim
    | _ => exact q.elim
abbrev rStrW : List V → Hp → VK → Prop := fun xs H Q => (∃ i, xs = [.int i] ∧ i.natAbs.log2 < 1920 ∧ Q (.str (toString i)) H) ∨ (∃ a, xs = [.str a] ∧ Q (.str a) H)
theorem c_str : CallR X (.type "str") rStrW := cr_or call_str_int SkE.call_str_str
theorem n_str : OpN K rStrW (fn1 strV) := n_1 fun W F ad os H x d Q w r1 q => by
  cases d with
  | own i => exact q.elim
  | p a =>
    cases r1 with
    | int i =>
      unfold strV at q
      dsimp only at q
      split at q
      · exact .inl ⟨i, rfl, by assumption, q.now w (.str _)⟩
      · exact q.elim
    | str z => exact .inr ⟨z, rfl, q.now w (.str _)⟩
    | _ => exact q.elim
abbrev rListW (K : PySem.W.Frag) : List V → Hp → VK → Prop := fun xs H Q => (∃ p ys, xs = [.ref p] ∧ (SqL K H p ys ∨ SqT K H p ys) ∧ ∀ l, H l = none → Q (.ref l) (upd H l (.lst ys))) ∨
  (∃ (a : Addr) (kvs : List (Key × V)), xs = [.ref a] ∧ Rd H a (.dK kvs) ∧ ∀ p, H p = none → Q (.ref p) (upd H p (.lst (kvs.map fun kv => kV kv.1))))
theorem c_list (hc : X.calm = true) : CallR X (.type "list") (rListW X.K) := cr_or call_list_of (call_listD hc)
theorem keys_rep {F : Hp} : ∀ {kvs : List (Key × P)} {vs : List (Key × V)}, RepKV K F kvs vs → RepL K F (kvs.map fun kv => pkey kv.1) (vs.map fun kv => kV kv.1)
  | _, _, .nil => .nil
  | _, _, .cons (k := k) h t => .cons (rep_pkey k) (keys_rep t)
theorem n_list : OpFN K (rListW K) (fn1 listV) := n_1F fun W F ad os H x d Q w r1 q => by
  have gen : OutF K W F ad Q (match seqOf os d with
    | some xs => .ok xs os
    | none => .bad) → rListW K [x] H Q := fun q => by
    cases e : seqOf os d with
    | none => rw [e] at q; exact q.elim
    | some xs =>
      rw [e] at q
      obtain ⟨a, vs, rfl, h, r⟩ := seq_at w r1 e
      exact .inl ⟨a, vs, rfl, h, fun l nl => q F ad H l vs Grow.refl w nl r⟩
  cases d with
  | own i => exact gen q
  | p a =>
    cases r1 with
    | dK h r => exact .inr ⟨_, _, rfl, rd_mono w.same h, fun l nl => q F ad H l _ Grow.refl w nl (keys_rep r)⟩
    | _ => exact gen q
abbrev rTupleW (K : PySem.W.Frag) : List V → Hp → VK → Prop := fun xs H Q => ∃ p ys, xs = [.ref p] ∧ ((SqL K H p ys ∧ ∀ l, H l = none → Q (.ref l) (upd H l (.tup ys))) ∨ (SqT K H p ys ∧ Q (.ref p) H))
theorem n_tuple : OpN K (rTupleW K) (fn1 tupleV) := n_1 fun W F ad os H x d Q w r1 q => by
  have gen : OutE K W F ad Q (match lstOf os d with
    | some xs => .ok (.p (.tup xs)) os
    | none => .bad) → rTupleW K [x] H Q := fun q => by
    cases e : lstOf os d with
    | none => rw [e] at q; exact q.elim
    | some xs =>
      rw [e] at q
      obtain ⟨a, vs, rfl, h, r⟩ := lst_at w r1 e
      exact ⟨a, vs, rfl, .inl ⟨.of h, fun l nl => q (upd F l (.tup vs)) ad _ _ (grow_new (w.none_ nl).1) (w.new nl) (.tup upd_same (r.mono (same_new (w.none_ nl).1)))⟩⟩
  cases d with
  | own i => exact gen q
  | p a =>
    cases r1 with
    | tup h r => exact ⟨_, _, rfl, .inr ⟨.of (w.same _ _ h), q.now w (.tup h r)⟩⟩
    | _ => exact gen q
abbrev rSortedW (K : PySem.W.Frag) : List V → Hp → VK → Prop := fun xs H Q => (rSortedS K xs H Q ∨ rSortedI K xs H Q) ∨
  ((∃ (a : Addr) (kvs : List (Key × V)) (ks : List Str), xs = [.ref a] ∧ Rd H a (.dK kvs) ∧ kvs.map (·.1) = ks.map Sum.inr ∧ ks.length < 64 ∧ ∀ ys p, ys.Perm ks → sortedS ys = true → H p = none → Q (.ref p) (upd H p (.lst (ys.map V.str)))) ∨
  (∃ (a : Addr) (kvs : List (Key × V)) (ks : List Int), xs = [.ref a] ∧ Rd H a (.dK kvs) ∧ kvs.map (·.1) = ks.map Sum.inl ∧ ks.length < 64 ∧ ∀ (ys : List Int) (p : Addr), ys.Perm ks → ys.Pairwise (· ≤ ·) → H p = none → Q (.ref p) (upd H p (.lst (ys.map V.int)))))
theorem c_sorted (hc : X.calm = true) : CallR X (.builtin "sorted") (rSortedW X.K) := cr_or (cr_or cr_sortedS cr_sortedI) (cr_or (call_sortedD hc) (call_sortedDI hc))
theorem n_sorted : OpFN K (rSortedW K) (fn1 sortedV) := n_1F fun W F ad os H x d Q w r1 q => by
  unfold sortedV at q
  cases e : dctOf os d with
  | some dd =>
    rw [e] at q
    obtain ⟨a, rfl, h⟩ := dct_at w r1 e
    cases h with
    | dt h r => exact q.elim
    | dk h r =>
      rename_i kvs vs
      dsimp only at q
      cases e2 : keysS (kvs.map (·.1)) with
      | some ks =>
        rw [e2] at q
        dsimp only at q
        split at q
        · rename_i hl
          refine .inr (.inl ⟨a, vs, ks, rfl, h, by rw [r.keys, keysS_of e2], hl, fun ys p hp hs np => ?_⟩)
          rw [sortS_of hp hs]
          exact q F ad H p _ Grow.refl w np (rep_strs _)
        · exact q.elim
      | none =>
        rw [e2] at q
        cases e3 : keysI (kvs.map (·.1)) with
        | none => rw [e3] at q; exact q.elim
        | some ks =>
          rw [e3] at q
          dsimp only at q
          split at q
          · rename_i hl
            refine .inr (.inr ⟨a, vs, ks, rfl, h, by rw [r.keys, keysI_of e3], hl, fun ys p hp hs np => ?_⟩)
            rw [sortI_of hp hs]
            exact q F ad H p _ Grow.refl w np (rep_ints _)
          · exact q.elim
  | none =>
    rw [e] at q
    cases e1 : lstOf os d with
    | none => rw [e1] at q; exact q.elim
    | some xs =>
      rw [e1] at q
      obtain ⟨a, vs, rfl, h, r⟩ := lst_at w r1 e1
      dsimp only at q
      cases e2 : strsOf xs with
      | some ss =>
        rw [e2] at q
        dsimp only at q
        rw [strsOf_rep e2 r] at h
        split at q
        · rename_i hl
          refine .inl (.inl ⟨a, ss, rfl, .of h, hl, fun ys p hp hs np => ?_⟩)
          rw [sortS_of hp hs]
          exact q F ad H p _ Grow.refl w np (rep_strs _)
        · exact q.elim
      | none =>
        rw [e2] at q
        cases e3 : intsOf xs with
        | none => rw [e3] at q; exact q.elim
        | some ns =>
          rw [e3] at q
          rw [intsOf_rep e3 r] at h
          refine .inl (.inr ⟨a, ns, rfl, .of h, fun ys p hp hs np => ?_⟩)
          rw [sortI_of hp hs]
          exact q F ad H p _ Grow.refl w np (rep_ints _)
end

/-! ### isinstance -/
inductive Ty where
  | nonT | boolT | intT | strT | listT | tupleT | dictT
def Ty.name : Ty → String
  | .nonT => "NoneType" | .boolT => "bool" | .intT => "int" | .strT => "str" | .listT => "list" | .tupleT => "tuple" | .dictT => "dict"
def isTab : Ty → Ty → Bool
  | .boolT, .boolT => true | .boolT, .intT => true | .intT, .intT => true | .strT, .strT => true | .listT, .listT => true | .tupleT, .tupleT => true | .dictT, .dictT => true
  | _, _ => false
theorem kitB_tab (t T : Ty) (h : T ≠ .nonT) : kitB t.name T.name = some (isTab t T) := by
  cases T with
  | nonT => exact absurd rfl h
  | _ => cases t <;> decide +kernel
def tyOf (os : List O) : D → Option Ty
  | .p .non => some .nonT
  | .p (.bl _) => some .boolT
  | .p (.int _) => some .intT
  | .p (.str _) => some .strT
  | .p (.lst _) => some .listT
  | .p (.tup _) => some .tupleT
  | .p (.dK _) => some .dictT
  | .own i => match os[i]? with
    | some (.lst _) => some .listT
    | some (.dK _) => some .dictT
    | some (.dT _) => some .dictT
    | _ => none
  | _ => none
def isiV (T : Ty) (d : D) : M D := fun os => match tyOf os d with
  | some t => .ok (.p (.bl (isTab t T))) os
  | none => .bad
section
variable {X : Cx} {W : XK} {a b : Expr} {fa : Sl → M D} {pos p p2 : Pos}
theorem ty_at {K : PySem.W.Frag} {F : Hp} {ad : Ads} {os : List O} {H : Hp} {d : D} {v : V} {t : Ty} (w : Own K F ad os H) (r : RelD K F ad d v) (e : tyOf os d = some t) : TyX K H v (.type t.name) := by
  cases d with
  | p x =>
    cases r with
    | non => cases e; exact .base .non
    | bl => cases e; exact .base (.bl _)
    | int => cases e; exact .base (.int _)
    | str => cases e; exact .base (.str _)
    | tup h r => cases e; exact .base (.tup (w.same _ _ h))
    | lst h r => cases e; exact .base (.lst (w.same _ _ h))
    | dK h r =>
      cases e
      rcases rd_mono w.same h with h | ⟨o, h⟩
      · exact .base (.dK h)
      · exact .fDict h
    | _ => cases e
  | own i =>
    obtain ⟨a, ha, rfl⟩ := r
    unfold tyOf at e
    dsimp only at e
    cases q : os[i]? with
    | none => rw [q] at e; cases e
    | some o =>
      rw [q] at e
      obtain ⟨a', ha', ro⟩ := w.at_ q
      rw [ha] at ha'
      cases ha'
      cases o with
      | lst ys =>
        cases e
        obtain ⟨vs, h, r⟩ := ro
        exact .base (.lst h)
      | dK ys =>
        cases e
        obtain ⟨vs, h, r⟩ := ro
        exact .base (.dK h)
      | dT ys =>
        cases e
        obtain ⟨vs, h, r⟩ := ro
        exact .base (.dT h)
      | _ => cases e
theorem de_isi (T : Ty) (hT : T ≠ .nonT) {x : Str} (hg : Gl X "isinstance") (hm : X.mg "isinstance" = none) (ha : DE X W a fa) (hb : PE X b (tC (.ty T.name)))
    (he : starEach [a, b] X.env = (false, eval a X.env) :: starEach [b] X.env := by rfl) (hs : starEach [b] X.env = (false, eval b X.env) :: starEach [] X.env := by rfl) (hpl : (backTo pos (starEach [b] X.env)).any (·.1) = false := by rfl) :
    DE X W (.Call (.Name "isinstance" p) [a, b] [] pos) (op1 (isiV T) fa) := pe_imp (pe_callB call_isi hg hm boot_isinstance (pa_cons ha (pa_cons hb pa_nil hs) he) (by decide) (by decide) he hpl) fun σ H Q ⟨S, os, F, ad, sl, w, q⟩ => by
  refine td_bind sl w ?_
  unfold op1 at q
  revert q
  cases fa S os with
  | bad => exact fun q => q
  | ex x os1 => exact fun q => q
  | ok d os1 =>
    intro q F1 ad1 H1 v g1 w1 r1
    have q2 : OutE X.K W F ad Q (isiV T d os1) := q
    unfold isiV at q2
    cases e : tyOf os1 d with
    | none => rw [e] at q2; exact q2.elim
    | some t =>
      rw [e] at q2
      exact ⟨v, .ty T.name, .type t.name, .type T.name, isTab t T, rfl, .ty _, ty_at w1 r1 e, kit_ty (kitB_tab t T hT), q2 F1 ad1 H1 _ g1 w1 (.bl _)⟩
end
end DL
/-! DLf: places, slices, attributes, built-in methods. -/
namespace DL
open PySem PySem.Spec
open PyProof.Rows L2

/-! ### places -/
def ixO (d e : D) (os : List O) : Option P := match dctOf os d with
  | some dd => (match dd.look e with
    | some o => o
    | none => none)
  | none => match d, e with
    | .p (.str z), .p (.int i) => if z.length ≤ sizeLine then (atI z.cps.toList i).map fun c => P.str ⟨#[c]⟩ else none
    | d, .p (.int i) => (match seqOf os d with
      | some xs => atI xs i
      | none => none)
    | _, _ => none
def ixV (d e : D) : M D := fun os => match ixO d e os with
  | some x => .ok (.p x) os
  | none => .bad
section
variable {X : Cx} {K : PySem.W.Frag}
theorem ix_dict (hu : X.A.units + 1 < cLine) : IxR X (fun x y H Q => ∃ a v, x = .ref a ∧ DGet H a y (some v) ∧ Q v H) := by
  intro value slice pins s σ H x y v u Q I rx ry h hs
  obtain ⟨a, z, rfl, g, q⟩ := h
  obtain rfl : v = Value.ref a := rx
  exact tail_any (dict_typeIs I g) PySem.F.slot_dict_getitem.lookup (d_getItem hu I g ry fun w' s3 I3 rw' => ⟨z, H, I3, rw', q⟩) hs
abbrev rIxW (K : PySem.W.Frag) : R2 := fun x y H Q => (rIxL K x y H Q ∨ rIxT K x y H Q) ∨ (rIxS x y H Q ∨ (∃ a v, x = .ref a ∧ DGet H a y (some v) ∧ Q v H))
theorem i_ix (hu : X.A.units + 1 < cLine) : IxR X (rIxW X.K) := IxR.or (IxR.or ix_list ix_tup) (IxR.or ix_str (ix_dict hu))
theorem ixN_lt {n : Nat} {i : Int} {j : Nat} (h : ixN n i = some j) : j < n := by
  unfold ixN at h
  split at h
  · split at h
    · cases h; omega
    · cases h
  · split at h
    · cases h; omega
    · cases h
theorem atI_rep {F : Hp} {ps : List P} {vs : List V} {i : Int} {p : P} (r : RepL K F ps vs) (e : atI ps i = some p) : ∃ v, atI vs i = some v ∧ Rep K F p v := by
  unfold atI at e ⊢
  rw [r.length]
  cases h : ixN ps.length i with
  | none => rw [h] at e; cases e
  | some j =>
    rw [h] at e
    exact r.get e
theorem x_ix : Op2 K (rIxW K) ixV := by
  intro W F ad os H x y d e Q w r1 r2 q
  unfold ixV at q
  cases h : ixO d e os with
  | none => rw [h] at q; exact q.elim
  | some z =>
    rw [h] at q
    unfold ixO at h
    cases e1 : dctOf os d with
    | some dd =>
      rw [e1] at h
      dsimp only at h
      cases e2 : dd.look e with
      | none => rw [e2] at h; cases h
      | some o =>
        rw [e2] at h
        dsimp only at h
        subst h
        obtain ⟨a, rfl, hd⟩ := dct_at w r1 e1
        obtain ⟨ov, g, c⟩ := hd.get w.same r2 e2
        rcases c with ⟨h1, _⟩ | ⟨p, v, h1, rfl, rp⟩
        · cases h1
        · cases h1
          exact .inr (.inr ⟨a, v, rfl, g, q.now w rp⟩)
    | none =>
      rw [e1] at h
      have gen : ∀ i : Int, e = .p (.int i) → (match seqOf os d with
        | some xs => atI xs i
        | none => none) = some z → rIxW K x y H Q := fun i he hh => by
        rw [he] at r2
        cases r2
        cases e2 : seqOf os d with
        | none => rw [e2] at hh; cases hh
        | some xs =>
          rw [e2] at hh
          obtain ⟨a, vs, rfl, hs, r⟩ := seq_at w r1 e2
          obtain ⟨v, hv, rp⟩ := atI_rep r hh
          rcases hs with hs | hs
          · exact .inl (.inl ⟨a, vs, i, v, rfl, rfl, hs, hv, q.now w rp⟩)
          · exact .inl (.inr ⟨a, vs, i, v, rfl, rfl, hs, hv, q.now w rp⟩)
      cases e with
      | own k => exact (by cases d with
        | own j => cases h
        | p a => cases a <;> cases h)
      | p b =>
        cases b with
        | int i =>
          cases d with
          | own j => exact gen i rfl h
          | p a =>
            cases a with
            | str s =>
              cases r1
              cases r2
              dsimp only at h
              split at h
              · rename_i hl
                cases hc : atI s.cps.toList i with
                | none => rw [hc] at h; cases h
                | some c =>
                  rw [hc] at h
                  cases h
                  exact .inr (.inl ⟨s, i, c, rfl, rfl, hl, hc, q.now w (.str _)⟩)
              · cases h
            | _ => exact gen i rfl h
        | _ => exact (by cases d with
          | own j => cases h
          | p a => cases a <;> cases h)
end

/-! ### slices -/
def OutO (K : PySem.W.Frag) (W : XK) (F : Hp) (ad : Ads) (Q : Option Int → Hp → Prop) : Res (Option Int) → Prop
  | .ok b os => ∀ F' ad' H', Grow F ad F' ad' → Own K F' ad' os H' → Q b H'
  | .ex x os => ∀ F' ad' H' cls dd, Grow F ad F' ad' → Own K F' ad' os H' → RelX K F' H' x cls dd → W cls dd H'
  | .bad => False
theorem OutO.grow {K : PySem.W.Frag} {W : XK} {F F1 : Hp} {ad ad1 : Ads} {Q : Option Int → Hp → Prop} (g : Grow F ad F1 ad1) {r : Res (Option Int)} (h : OutO K W F ad Q r) : OutO K W F1 ad1 Q r := by
  cases r with
  | ok d os => exact fun F' ad' H' g' => h F' ad' H' (g.trans g')
  | ex x os => exact fun F' ad' H' cls dd g' => h F' ad' H' cls dd (g.trans g')
  | bad => exact h
abbrev DO (X : Cx) (W : XK) (e : Option Expr) (f : Sl → M (Option Int)) : Prop := PO X e (fun σ H Q => ∃ S os F ad, SlR X.K F ad S σ ∧ Own X.K F ad os H ∧ OutO X.K W F ad Q (f S os))
def noPart : Sl → M (Option Int) := fun _ os => .ok none os
def part (f : Sl → M D) : Sl → M (Option Int) := fun S os => (f S os).bind fun d os => match d with
  | .p (.int i) => .ok (some i) os
  | _ => .bad
/-- the items from lo to hi -/
def cutP {α : Type} (xs : List α) (lo hi : Option Int) : List α := (xs.drop (HT.sIx xs.length 0 lo)).take (HT.sIx xs.length xs.length hi - HT.sIx xs.length 0 lo)
def slF (d : D) (lo hi : Option Int) : M (List P) := fun os => match lstOf os d with
  | some xs => .ok (cutP xs lo hi) os
  | none => .bad
def slV (d : D) (lo hi : Option Int) : M D := fun os => match d with
  | .p (.str z) => if z.length ≤ sizeLine then .ok (.p (.str (cutS z lo hi))) os else .bad
  | .p (.tup xs) => if HT.sIx xs.length 0 lo = 0 ∧ HT.sIx xs.length xs.length hi = xs.length then .bad else .ok (.p (.tup (cutP xs lo hi))) os
  | d => frz (slF d lo hi) os
def slice {α : Type} (g : D → Option Int → Option Int → M α) (f : Sl → M D) (lo hi : Sl → M (Option Int)) : Sl → M α := fun S os => (f S os).bind fun d os => (lo S os).bind fun l os => (hi S os).bind fun h => g d l h
section
variable {X : Cx} {K : PySem.W.Frag} {W : XK} {a e : Expr} {f : Sl → M D} {lo hi : Option Expr} {fl fh : Sl → M (Option Int)} {pos p2 : Pos}
theorem do_none : DO X W none noPart := ⟨fun pins s σ H Q I ⟨S, os, F, ad, sl, w, q⟩ => po_none.run pins s σ H Q I (q F ad H Grow.refl w)⟩
theorem do_some (h : DE X W e f) : DO X W (some e) (part f) := ⟨fun pins s σ H Q I ⟨S, os, F, ad, sl, w, q⟩ => (po_some h).run pins s σ H Q I (by
  refine td_bind sl w ?_
  unfold part at q
  revert q
  cases f S os with
  | bad => exact fun q => q
  | ex x os1 => exact fun q => q
  | ok d os1 =>
    intro q F1 ad1 H1 v g1 w1 r1
    cases d with
    | own i => exact q.elim
    | p x =>
      cases r1 with
      | int i => exact ⟨i, rfl, q F1 ad1 H1 g1 w1⟩
      | _ => exact q.elim)⟩
theorem cut_rep {F : Hp} {xs : List P} {vs : List V} (r : RepL K F xs vs) (lo hi : Option Int) : RepL K F (cutP xs lo hi) (cutV vs lo hi) := by
  unfold cutP cutV
  rw [r.length]
  exact (r.drop _).take _
abbrev rSlW (K : PySem.W.Frag) : V → Option Int → Option Int → Hp → VK → Prop := fun x lo hi H Q => rSlL K x lo hi H Q ∨ (rSlT K x lo hi H Q ∨ rSlS x lo hi H Q)
theorem s_sl : L2.SlR X (rSlW X.K) := L2.SlR.or sl_list (L2.SlR.or sl_tup sl_str)
theorem sl_list_core {F : Hp} {ad : Ads} {os : List O} {H : Hp} {x : V} {d : D} {l h : Option Int} {Q : VK} (w : Own K F ad os H) (r1 : RelD K F ad d x) (q : OutF K W F ad Q (slF d l h os)) : rSlL K x l h H Q := by
  unfold slF at q
  cases e : lstOf os d with
  | none => rw [e] at q; exact q.elim
  | some xs =>
    rw [e] at q
    obtain ⟨a, vs, rfl, ha, r⟩ := lst_at w r1 e
    exact ⟨a, vs, rfl, .of ha, fun p np => q F ad H p _ Grow.refl w np (cut_rep r l h)⟩
theorem sl_core {F : Hp} {ad : Ads} {os : List O} {H : Hp} {x : V} {d : D} {l h : Option Int} {Q : VK} (w : Own K F ad os H) (r1 : RelD K F ad d x) (q : OutE K W F ad Q (slV d l h os)) : rSlW K x l h H Q := by
  have gen : OutE K W F ad Q (frz (slF d l h) os) → rSlW K x l h H Q := fun q => .inl (sl_list_core w r1 (out_frz q))
  cases d with
  | own i => exact gen q
  | p a =>
    cases r1 with
    | str z =>
      unfold slV at q
      dsimp only at q
      split at q
      · exact .inr (.inr ⟨z, rfl, by assumption, q.now w (.str _)⟩)
      · exact q.elim
    | tup ht r =>
      unfold slV at q
      dsimp only at q
      split at q
      · exact q.elim
      · rename_i hn
        refine .inr (.inl ⟨_, _, rfl, .of (w.same _ _ ht), by rw [r.length]; exact hn, fun p np => ?_⟩)
        exact q (upd F p _) ad _ _ (grow_new (w.none_ np).1) (w.new np) (.tup upd_same ((cut_rep r l h).mono (same_new (w.none_ np).1)))
    | _ => exact gen q
theorem slice_run {α : Type} {g : D → Option Int → Option Int → M α} {r : V → Option Int → Option Int → Hp → VK → Prop} {Out : Hp → Ads → Res α → Prop} {Q : VK}
    (hbad : ∀ F ad, ¬ Out F ad .bad) (hex : ∀ F ad x os, Out F ad (.ex x os) → ∀ F' ad' H' cls dd, Grow F ad F' ad' → Own K F' ad' os H' → RelX K F' H' x cls dd → W cls dd H') (hg : ∀ F ad F1 ad1 (z : Res α), Grow F ad F1 ad1 → Out F ad z → Out F1 ad1 z)
    (core : ∀ F ad os H x d l h, Own K F ad os H → RelD K F ad d x → Out F ad (g d l h os) → r x l h H Q) {S : Sl} {os : List O} {F : Hp} {ad : Ads} {σ : L2.St} {H : Hp} (sl : SlR K F ad S σ) (w : Own K F ad os H) (q : Out F ad (slice g f fl fh S os)) :
    tSl r (TD K W f) (fun σ H Q => ∃ S os F ad, SlR K F ad S σ ∧ Own K F ad os H ∧ OutO K W F ad Q (fl S os)) (fun σ H Q => ∃ S os F ad, SlR K F ad S σ ∧ Own K F ad os H ∧ OutO K W F ad Q (fh S os)) σ H Q := by
  refine td_bind sl w ?_
  unfold slice at q
  revert q
  cases f S os with
  | bad => exact fun q => hbad _ _ q
  | ex x os1 => exact fun q => hex _ _ _ _ q
  | ok d os1 =>
    intro q F1 ad1 H1 v g1 w1 r1
    refine ⟨S, os1, F1, ad1, sl.mono g1, w1, ?_⟩
    revert q
    show Out F ad ((fl S os1).bind fun l os => (fh S os).bind fun h => g d l h) → _
    cases fl S os1 with
    | bad => exact fun q => (hbad _ _ q).elim
    | ex x os2 => exact fun q => hex _ _ _ _ (hg _ _ _ _ _ g1 q)
    | ok l os2 =>
      intro q F2 ad2 H2 g2 w2
      refine ⟨S, os2, F2, ad2, sl.mono (g1.trans g2), w2, ?_⟩
      revert q
      show Out F ad ((fh S os2).bind fun h => g d l h) → _
      cases fh S os2 with
      | bad => exact fun q => (hbad _ _ q).elim
      | ex x os3 => exact fun q => hex _ _ _ _ (hg _ _ _ _ _ (g1.trans g2) q)
      | ok h os3 => exact fun q F3 ad3 H3 g3 w3 => core F3 ad3 os3 H3 v d l h w3 (r1.mono (g2.trans g3)) (hg _ _ _ _ _ (g1.trans (g2.trans g3)) q)
theorem de_slice (he : DE X W a f) (hl : DO X W lo fl) (hu : DO X W hi fh) : DE X W (.Subscript a (.Slice lo hi none p2) pos) (slice slV f fl fh) := pe_imp (pe_slice s_sl he hl hu) fun σ H Q ⟨S, os, F, ad, sl, w, q⟩ =>
  slice_run (g := slV) (r := rSlW X.K) (Out := fun F ad z => OutE X.K W F ad Q z) (fun _ _ h => h) (fun _ _ _ _ h => h) (fun _ _ _ _ _ g h => OutE.grow g h) (fun _ _ _ _ _ _ _ _ w r q => sl_core w r q) sl w q
theorem df_slice (he : DE X W a f) (hl : DO X W lo fl) (hu : DO X W hi fh) : DF X W (.Subscript a (.Slice lo hi none p2) pos) (slice slF f fl fh) := pe_imp (pe_slice sl_list he hl hu) fun σ H Q ⟨S, os, F, ad, sl, w, q⟩ =>
  slice_run (g := slF) (r := rSlL X.K) (Out := fun F ad z => OutF X.K W F ad Q z) (fun _ _ h => h) (fun _ _ _ _ h => h) (fun _ _ _ _ _ g h => OutF.grow g h) (fun _ _ _ _ _ _ _ _ w r q => sl_list_core w r q) sl w q
/-- xs[::-1] -/
def revF (d : D) : M (List P) := fun os => match lstOf os d with
  | some xs => .ok xs.reverse os
  | none => .bad
theorem df_rev {k : Nat} {p1 p2 p3 pos : Pos} (he : DE X W a f) : DF X W (.Subscript a (.Slice none none (some (.UnaryOp .USub (.Constant (.int 1) k p1) p2)) p3) pos) (op1 revF f) := pe_imp (pe_revL he) fun σ H Q ⟨S, os, F, ad, sl, w, q⟩ => by
  refine td_bind sl w ?_
  unfold op1 at q
  revert q
  cases f S os with
  | bad => exact fun q => q
  | ex x os1 => exact fun q => q
  | ok d os1 =>
    intro q F1 ad1 H1 v g1 w1 r1
    have q2 : OutF X.K W F ad Q (revF d os1) := q
    unfold revF at q2
    cases e : lstOf os1 d with
    | none => rw [e] at q2; exact q2.elim
    | some xs =>
      rw [e] at q2
      obtain ⟨b, vs, rfl, ha, r⟩ := lst_at w1 r1 e
      exact ⟨b, vs, rfl, .of ha, fun p np => q2 F1 ad1 H1 p _ g1 w1 np r.reverse⟩
end

/-! ### attributes -/
def dlk (fs : List (Str × D)) (f : Str) : Option D := (fs.find? fun q => decide (q.1 = f)).map (·.2)
def fldO (os : List O) (C f : Str) : D → Option D
  | .p (.ins C' fs) => if C' = C then (dlook fs f).map D.p else none
  | .own i => match os[i]? with
    | some (.ins C' fs) => if C' = C then dlk fs f else none
    | _ => none
  | _ => none
def fldV (C f : Str) (d : D) : M D := fun os => match fldO os C f d with
  | some e => .ok e os
  | none => .bad
section
variable {X : Cx} {K : PySem.W.Frag} {W : XK} {a : Expr} {f : Sl → M D} {pos : Pos}
theorem lk_rep {F : Hp} {f : Str} : ∀ {fs : List (Str × P)} {vs : List (Str × V)} {p : P}, RepKV K F fs vs → dlook fs f = some p → ∃ v, vs.lookup f = some v ∧ Rep K F p v := fun {fs} => by
  induction fs with
  | nil =>
    intro vs p r e
    cases e
  | cons q fs ih =>
    intro vs p r e
    cases r with
    | cons h t =>
      rename_i pp v k vs
      by_cases hk : k = f
      · subst hk
        simp [dlook, List.find?_cons] at e
        subst e
        exact ⟨v, by simp [List.lookup_cons], h⟩
      · have e' : dlook fs f = some p := by
          simpa [dlook, List.find?_cons, hk] using e
        obtain ⟨u, hu, ru⟩ := ih t e'
        refine ⟨u, ?_, ru⟩
        rw [List.lookup_cons]
        have : (f == k) = false := by simp; exact fun z => hk z.symm
        rw [this]
        exact hu
theorem lkD_rep {F : Hp} {ad : Ads} {f : Str} {fs : List (Str × D)} {vs : List (Str × V)} {p : D} (r : RelF K F ad fs vs) (e : dlk fs f = some p) : ∃ v, vs.lookup f = some v ∧ RelD K F ad p v := by
  induction r with
  | nil => cases e
  | cons h t ih =>
    rename_i k pp v ds vs
    by_cases hk : k = f
    · subst hk
      simp [dlk, List.find?_cons] at e
      subst e
      exact ⟨v, by simp [List.lookup_cons], h⟩
    · have e' : dlk ds f = some p := by
        simpa [dlk, List.find?_cons, hk] using e
      obtain ⟨u, hu, ru⟩ := ih e'
      refine ⟨u, ?_, ru⟩
      rw [List.lookup_cons]
      have : (f == k) = false := by simp; exact fun z => hk z.symm
      rw [this]
      exact hu
theorem de_fld {C fn : Str} (cl : Cls X.K (He.ga X.K C)) (na : NoAttr X.K (He.ga X.K C) fn) (he : DE X W a f) (hb : attributeBase a fn X.env (eval a X.env) = eval a X.env := by rfl) : DE X W (.Attribute a fn pos) (op1 (fldV C fn) f) := pe_imp (pe_fld he hb) fun σ H Q ⟨S, os, F, ad, sl, w, q⟩ => by
  refine td_bind sl w ?_
  unfold op1 at q
  revert q
  cases f S os with
  | bad => exact fun q => q
  | ex x os1 => exact fun q => q
  | ok d os1 =>
    intro q F1 ad1 H1 v g1 w1 r1
    have q2 : OutE X.K W F ad Q (fldV C fn d os1) := q
    unfold fldV at q2
    cases e : fldO os1 C fn d with
    | none => rw [e] at q2; exact q2.elim
    | some z =>
      rw [e] at q2
      cases d with
      | p x =>
        cases r1 with
        | ins h r =>
          unfold fldO at e
          dsimp only at e
          split at e
          · rename_i hc
            subst hc
            cases e2 : dlook _ fn with
            | none => rw [e2] at e; cases e
            | some p =>
              rw [e2] at e
              cases e
              obtain ⟨u, hu, ru⟩ := lk_rep r e2
              exact ⟨_, _, _, _, u, rfl, w1.same _ _ h, cl, na, hu, q2 F1 ad1 H1 u g1 w1 ru⟩
          · cases e
        | _ => cases e
      | own i =>
        obtain ⟨b, hb, rfl⟩ := r1
        unfold fldO at e
        dsimp only at e
        cases qq : os1[i]? with
        | none => rw [qq] at e; cases e
        | some o =>
          rw [qq] at e
          obtain ⟨b', hb', ro⟩ := w1.at_ qq
          rw [hb] at hb'
          cases hb'
          cases o with
          | ins C' fs =>
            dsimp only at e
            split at e
            · rename_i hc
              subst hc
              obtain ⟨dx, vs, h, r⟩ := ro
              obtain ⟨u, hu, ru⟩ := lkD_rep r e
              exact ⟨b, _, dx, vs, u, rfl, h, cl, na, hu, q2 F1 ad1 H1 u g1 w1 ru⟩
            · cases e
          | _ => cases e
end

/-! ### methods of built-in types -/
def recvOk (os : List O) (T : String) (d : D) : Bool := match tyOf os d with
  | some .listT => decide (T = "list")
  | some .strT => decide (T = "str")
  | _ => false
def mt0 {α : Type} (T : String) (g : D → List D → M α) (f : Sl → M D) : Sl → M α := fun S os => (f S os).bind fun d os => if recvOk os T d then g d [] os else .bad
def mtN {α : Type} (T : String) (g : D → List D → M α) (f : Sl → M D) (fr : Sl → M (List D)) : Sl → M α := fun S os => (f S os).bind fun d os => if recvOk os T d then (fr S os).bind fun ds => g d ds else .bad
section
variable {X : Cx} {K : PySem.W.Frag} {W : XK} {o e : Expr} {es : List Expr} {f : Sl → M D} {fr : Sl → M (List D)} {apos cpos : Pos} {T id : String} {name : Str} {r : V → List V → Hp → VK → Prop}
theorem recv_ok {F : Hp} {ad : Ads} {os : List O} {H : Hp} {d : D} {v : V} (w : Own K F ad os H) (rd : RelD K F ad d v) (h : recvOk os T d = true) : tyV K T v H := by
  unfold recvOk at h
  cases e : tyOf os d with
  | none => rw [e] at h; cases h
  | some t =>
    rw [e] at h
    cases t with
    | listT =>
      have eT : T = "list" := of_decide_eq_true h
      subst eT
      cases d with
      | p x =>
        cases rd with
        | lst hh r => exact .inl ⟨rfl, _, .of (w.same _ _ hh)⟩
        | _ => cases e
      | own i =>
        obtain ⟨b, hb, rfl⟩ := rd
        unfold tyOf at e
        dsimp only at e
        cases qq : os[i]? with
        | none => rw [qq] at e; cases e
        | some ob =>
          rw [qq] at e
          obtain ⟨b', hb', ro⟩ := w.at_ qq
          rw [hb] at hb'
          cases hb'
          cases ob with
          | lst ys =>
            obtain ⟨vs, h, r⟩ := ro
            exact .inl ⟨rfl, _, .of h⟩
          | _ => cases e
    | strT =>
      have eT : T = "str" := of_decide_eq_true h
      subst eT
      cases d with
      | p x =>
        cases rd with
        | str z => rfl
        | _ => cases e
      | own i =>
        unfold tyOf at e
        dsimp only at e
        cases qq : os[i]? with
        | none => rw [qq] at e; cases e
        | some ob =>
          rw [qq] at e
          cases ob <;> cases e
    | _ => cases h
theorem mt0_run {g : D → List D → M D} (hd : OpM X.K r g) {σ : L2.St} {H : Hp} {Q : VK} (h : TD X.K W (mt0 T g f) σ H Q) : tBM0 X.K T r (TD X.K W f) σ H Q := by
  obtain ⟨S, os, F, ad, sl, w, q⟩ := h
  refine td_bind sl w ?_
  unfold mt0 at q
  revert q
  cases f S os with
  | bad => exact fun q => q
  | ex x os1 => exact fun q => q
  | ok d os1 =>
    intro q F1 ad1 H1 v g1 w1 r1
    have q2 : OutE X.K W F ad Q (if recvOk os1 T d then g d [] os1 else .bad) := q
    split at q2
    · rename_i hr
      exact ⟨recv_ok w1 r1 hr, hd W F1 ad1 os1 H1 v [] d [] Q w1 r1 .nil (OutE.grow g1 q2)⟩
    · exact q2.elim
theorem mtN_run {g : D → List D → M D} (hd : OpM X.K r g) {σ : L2.St} {H : Hp} {Q : VK} (h : TD X.K W (mtN T g f fr) σ H Q) : tBM X.K T r (TD X.K W f) (TDL X.K W fr) σ H Q := by
  obtain ⟨S, os, F, ad, sl, w, q⟩ := h
  refine td_bind sl w ?_
  unfold mtN at q
  revert q
  cases f S os with
  | bad => exact fun q => q
  | ex x os1 => exact fun q => q
  | ok d os1 =>
    intro q F1 ad1 H1 v g1 w1 r1
    have q2 : OutE X.K W F ad Q (if recvOk os1 T d then (fr S os1).bind fun ds => g d ds else .bad) := q
    split at q2
    · rename_i hr
      refine ⟨recv_ok w1 r1 hr, S, os1, F1, ad1, sl.mono g1, w1, ?_⟩
      revert q2
      cases fr S os1 with
      | bad => exact fun q => q
      | ex x os2 => exact fun q => OutE.grow (r := .ex x os2) g1 q
      | ok ds os2 => exact fun q F2 ad2 H2 vs g2 w2 r2 => hd W F2 ad2 os2 H2 v vs d ds Q w2 (r1.mono g2) r2 (OutE.grow (g1.trans g2) q)
    · exact q2.elim
theorem mtN_runF {g : D → List D → M (List P)} (hd : OpFM X.K r g) {σ : L2.St} {H : Hp} {Q : VK} (h : TDF X.K W (mtN T g f fr) σ H Q) : tBM X.K T r (TD X.K W f) (TDL X.K W fr) σ H Q := by
  obtain ⟨S, os, F, ad, sl, w, q⟩ := h
  refine td_bind sl w ?_
  unfold mtN at q
  revert q
  cases f S os with
  | bad => exact fun q => q
  | ex x os1 => exact fun q => q
  | ok d os1 =>
    intro q F1 ad1 H1 v g1 w1 r1
    have q2 : OutF X.K W F ad Q (if recvOk os1 T d then (fr S os1).bind fun ds => g d ds else .bad) := q
    split at q2
    · rename_i hr
      refine ⟨recv_ok w1 r1 hr, S, os1, F1, ad1, sl.mono g1, w1, ?_⟩
      revert q2
      cases fr S os1 with
      | bad => exact fun q => q
      | ex x os2 => exact fun q => OutF.grow (r := .ex x os2) g1 q
      | ok ds os2 => exact fun q F2 ad2 H2 vs g2 w2 r2 => hd W F2 ad2 os2 H2 v vs d ds Q w2 (r1.mono g2) r2 (OutF.grow (g1.trans g2) q)
    · exact q2.elim
theorem de_bm0 {g : D → List D → M D} (pa : PlainAttrs T) (slot : Slot T name id) (hty : typeOf (.builtin id) = pure (.type "method_descriptor")) (hm : MtR X id r) (hd : OpM X.K r g) (ho : DE X W o f)
    (hbase : attributeBase o name X.env (eval o X.env) = eval o X.env := by rfl) (hline : (apos.endLine == cpos.line) = true := by rfl) : DE X W (.Call (.Attribute o name apos) [] [] cpos) (mt0 T g f) := pe_imp (pe_bm0 pa slot hty hm ho hbase hline) fun σ H Q => mt0_run hd
theorem de_bm {g : D → List D → M D} (pa : PlainAttrs T) (slot : Slot T name id) (hty : typeOf (.builtin id) = pure (.type "method_descriptor")) (hm : MtR X id r) (hd : OpM X.K r g) (ho : DE X W o f) (ha : DA X W (e :: es) fr)
    (hbase : attributeBase o name X.env (eval o X.env) = eval o X.env := by rfl)
    (hfew : ((backTo cpos (starEach (e :: es) X.env)).all (fun x => !x.1) && (backToKw cpos (keywordEach [] X.env)).all (fun x => x.1.isSome) && decide ((e :: es).length + ([] : List Keyword).length + (if ([] : List Keyword).isEmpty then 0 else 1) < 30)) = true := by rfl)
    (hline : (apos.endLine == cpos.line) = true := by rfl) (hs : starEach (e :: es) X.env = (false, eval e X.env) :: starEach es X.env := by rfl) (hplain : (backTo cpos (starEach es X.env)).any (·.1) = false := by rfl) :
    DE X W (.Call (.Attribute o name apos) (e :: es) [] cpos) (mtN T g f fr) := pe_imp (pe_bm pa slot hty hm ho ha hbase hfew hline hs hplain) fun σ H Q => mtN_run hd
theorem df_bm {g : D → List D → M (List P)} (pa : PlainAttrs T) (slot : Slot T name id) (hty : typeOf (.builtin id) = pure (.type "method_descriptor")) (hm : MtR X id r) (hd : OpFM X.K r g) (ho : DE X W o f) (ha : DA X W (e :: es) fr)
    (hbase : attributeBase o name X.env (eval o X.env) = eval o X.env := by rfl)
    (hfew : ((backTo cpos (starEach (e :: es) X.env)).all (fun x => !x.1) && (backToKw cpos (keywordEach [] X.env)).all (fun x => x.1.isSome) && decide ((e :: es).length + ([] : List Keyword).length + (if ([] : List Keyword).isEmpty then 0 else 1) < 30)) = true := by rfl)
    (hline : (apos.endLine == cpos.line) = true := by rfl) (hs : starEach (e :: es) X.env = (false, eval e X.env) :: starEach es X.env := by rfl) (hplain : (backTo cpos (starEach es X.env)).any (·.1) = false := by rfl) :
    DF X W (.Call (.Attribute o name apos) (e :: es) [] cpos) (mtN T g f fr) := pe_imp (pe_bm pa slot hty hm ho ha hbase hfew hline hs hplain) fun σ H Q => mtN_runF hd
end
/-- xs.append(x), xs an owned list -/
def appV (d : D) (ds : List D) : M D := fun os => match d, ds with
  | .own i, [.p x] => (match os[i]? with
    | some (.lst xs) => if xs.length < sizeLine then .ok (.p .non) (os.set i (.lst (xs ++ [x]))) else .bad
    | _ => .bad)
  | _, _ => .bad
/-- xs.pop() -/
def popV (d : D) (ds : List D) : M D := fun os => match d, ds with
  | .own i, [] => (match os[i]? with
    | some (.lst xs) => (match xs[xs.length - 1]? with
      | some x => .ok (.p x) (os.set i (.lst xs.dropLast))
      | none => .bad)
    | _ => .bad)
  | _, _ => .bad
def idxP (p : P → Bool) : List P → Nat → Option Nat
  | [], _ => none
  | x :: xs, n => if p x = true then some n else idxP p xs (n + 1)
/-- xs.index(x) -/
def idxV (d : D) (ds : List D) : M D := fun os => match lstOf os d, ds with
  | some xs, [.p x] => if (pflat x && xs.all pflat) = true then (match idxP (fun y => pfeq y x) xs 0 with
    | some n => .ok (.p (.int (n : Nat))) os
    | none => .bad) else .bad
  | _, _ => .bad
/-- sep.join(xs) -/
def joinV (d : D) (ds : List D) : M D := fun os => match d, ds with
  | .p (.str z), [e] => (match seqOf os e with
    | some xs => (match strsOf xs with
      | some ss => if (ss.map (·.length)).sum + ss.length * z.length ≤ 16777216 then .ok (.p (.str (Txt.join z ss))) os else .bad
      | none => .bad)
    | none => .bad)
  | _, _ => .bad
/-- s.split(sep) -/
def splitV (d : D) (ds : List D) : M (List P) := fun os => match d, ds with
  | .p (.str z), [.p (.str b)] => if (b.length == 0) = false ∧ z.length + 2 ≤ sizeLine then .ok ((Txt.split z b).map P.str) os else .bad
  | _, _ => .bad
section
variable {K : PySem.W.Frag}
theorem RepL.dropLast {F : Hp} {ps : List P} {vs : List V} (r : RepL K F ps vs) : RepL K F ps.dropLast vs.dropLast := by
  rw [List.dropLast_eq_take, List.dropLast_eq_take, r.length]
  exact r.take _
theorem m_append : OpM K rAppend appV := by
  intro W F ad os H x xs d ds Q w r1 rs q
  unfold appV at q
  cases d with
  | p a => exact q.elim
  | own i =>
    match ds, rs, q with
    | [.p z], rs, q =>
      obtain ⟨v, rfl, rz⟩ := vs1 rs
      dsimp only at q
      cases e : os[i]? with
      | none => rw [e] at q; exact q.elim
      | some o =>
        rw [e] at q
        cases o with
        | lst ys =>
          dsimp only at q
          split at q
          · rename_i hl
            obtain ⟨a, ha, vs, h, r⟩ := w.at_ e
            obtain ⟨a', ha', rfl⟩ := r1
            rw [ha] at ha'
            cases ha'
            refine ⟨a, vs, v, rfl, rfl, h, by rw [r.length]; exact hl, ?_⟩
            exact q F ad _ _ Grow.refl (w.write e rfl ha rfl ⟨_, rfl, r.snoc rz⟩) .non
          · exact q.elim
        | _ => exact q.elim
    | [], _, q => exact q.elim
    | [.own _], _, q => exact q.elim
    | .p _ :: _ :: _, _, q => exact q.elim
    | .own _ :: _ :: _, _, q => exact q.elim
theorem m_pop : OpM K rPop popV := by
  intro W F ad os H x xs d ds Q w r1 rs q
  unfold popV at q
  cases d with
  | p a => exact q.elim
  | own i =>
    cases ds with
    | cons _ _ => exact q.elim
    | nil =>
      cases rs
      dsimp only at q
      cases e : os[i]? with
      | none => rw [e] at q; exact q.elim
      | some o =>
        rw [e] at q
        cases o with
        | lst ys =>
          dsimp only at q
          cases e2 : ys[ys.length - 1]? with
          | none => rw [e2] at q; exact q.elim
          | some z =>
            rw [e2] at q
            obtain ⟨a, ha, vs, h, r⟩ := w.at_ e
            obtain ⟨a', ha', rfl⟩ := r1
            rw [ha] at ha'
            cases ha'
            obtain ⟨v, hv, rz⟩ := r.get e2
            refine ⟨a, vs, v, rfl, rfl, h, by rw [r.length]; exact hv, ?_⟩
            exact q F ad _ _ Grow.refl (w.write e rfl ha rfl ⟨_, rfl, r.dropLast⟩) rz
        | _ => exact q.elim
theorem idxP_some {p : P → Bool} : ∀ {xs : List P} {n m : Nat}, idxP p xs n = some m → ∃ j z, m = n + j ∧ xs[j]? = some z ∧ p z = true ∧ ∀ (k : Nat) (y : P), k < j → xs[k]? = some y → p y = false
  | [], _, _, h => by cases h
  | x :: xs, n, m, h => by
    unfold idxP at h
    split at h
    · rename_i hp
      cases h
      exact ⟨0, x, rfl, rfl, hp, fun k y hk => by omega⟩
    · rename_i hp
      obtain ⟨j, z, e, h1, h2, h3⟩ := idxP_some h
      refine ⟨j + 1, z, by omega, h1, h2, fun k y hk hy => ?_⟩
      cases k with
      | zero =>
        cases hy
        exact Bool.eq_false_iff.mpr hp
      | succ k => exact h3 k y (by omega) hy
theorem m_index : OpM K (rIndex K) idxV := by
  intro W F ad os H x xs d ds Q w r1 rs q
  unfold idxV at q
  cases e : lstOf os d with
  | none => rw [e] at q; exact q.elim
  | some ys =>
    rw [e] at q
    match ds, rs, q with
    | [.p z], rs, q =>
      obtain ⟨v, rfl, rz⟩ := vs1 rs
      dsimp only at q
      split at q
      · rename_i c
        rw [Bool.and_eq_true] at c
        cases e2 : idxP (fun y => pfeq y z) ys 0 with
        | none => rw [e2] at q; exact q.elim
        | some n =>
          rw [e2] at q
          obtain ⟨a, vs, rfl, h, r⟩ := lst_at w r1 e
          obtain ⟨j, y, en, h1, h2, h3⟩ := idxP_some e2
          have en : n = j := by omega
          subst en
          obtain ⟨u, hu, ru⟩ := r.get h1
          have hflat : ∀ (k : Nat) (y : P), ys[k]? = some y → pflat y = true := fun k y hy => List.all_eq_true.mp c.2 y (List.mem_of_getElem? hy)
          refine ⟨a, vs, v, n, u, rfl, rfl, .of h, flat_rep rz c.1, flat_reps r c.2, hu, by rw [feq_rep ru (hflat _ _ h1) rz c.1]; exact h2, fun m z' hm hz => ?_, q.now w (.int _)⟩
          obtain ⟨p', hp', rp'⟩ := r.getV hz
          rw [feq_rep rp' (hflat _ _ hp') rz c.1]
          exact h3 m p' hm hp'
      · exact q.elim
    | [], _, q => exact q.elim
    | [.own _], _, q => exact q.elim
    | .p _ :: _ :: _, _, q => exact q.elim
    | .own _ :: _ :: _, _, q => exact q.elim
abbrev rJoin (K : PySem.W.Frag) : V → List V → Hp → VK → Prop := fun x xs H Q => ∃ a p, ∃ ys : List Str, x = .str a ∧ xs = [.ref p] ∧ (SqL K H p (ys.map V.str) ∨ SqT K H p (ys.map V.str)) ∧ (ys.map (·.length)).sum + ys.length * a.length ≤ 16777216 ∧ Q (.str (Txt.join a ys)) H
theorem m_join : OpM K (rJoin K) joinV := by
  intro W F ad os H x xs d ds Q w r1 rs q
  unfold joinV at q
  cases d with
  | own i => exact q.elim
  | p a =>
    cases r1 with
    | str z =>
      match ds, rs, q with
      | [e], rs, q =>
        obtain ⟨v, rfl, rz⟩ := vs1 rs
        dsimp only at q
        cases e1 : seqOf os e with
        | none => rw [e1] at q; exact q.elim
        | some ys =>
          rw [e1] at q
          dsimp only at q
          cases e2 : strsOf ys with
          | none => rw [e2] at q; exact q.elim
          | some ss =>
            rw [e2] at q
            dsimp only at q
            split at q
            · rename_i hl
              obtain ⟨b, vs, rfl, h, r⟩ := seq_at w rz e1
              rw [strsOf_rep e2 r] at h
              exact ⟨z, b, ss, rfl, rfl, h, hl, q.now w (.str _)⟩
            · exact q.elim
      | [], _, q => exact q.elim
      | _ :: _ :: _, _, q => exact q.elim
    | _ => exact q.elim
abbrev rSplit : V → List V → Hp → VK → Prop := fun x xs H Q => ∃ a b, x = .str a ∧ xs = [.str b] ∧ (b.length == 0) = false ∧ a.length + 2 ≤ sizeLine ∧ rNewStrs (Txt.split a b) H Q
theorem m_split : OpFM K rSplit splitV := by
  intro W F ad os H x xs d ds Q w r1 rs q
  unfold splitV at q
  cases d with
  | own i => exact q.elim
  | p a =>
    cases r1 with
    | str z =>
      match ds, rs, q with
      | [.p b], rs, q =>
        obtain ⟨v, rfl, rz⟩ := vs1 rs
        cases b with
        | str b =>
          cases rz
          dsimp only at q
          split at q
          · rename_i hl
            exact ⟨z, b, rfl, rfl, hl.1, hl.2, fun p np => q F ad H p _ Grow.refl w np (rep_strs _)⟩
          · exact q.elim
        | _ => exact q.elim
      | [], _, q => exact q.elim
      | [.own _], _, q => exact q.elim
      | .p b :: _ :: _, _, q => cases b <;> exact q.elim
      | .own _ :: _ :: _, _, q => exact q.elim
    | _ => exact q.elim
end

/-! ### d.get(k), d.get(k, x) -/
def getD' (d k z : D) : M D := fun os => match dctOf os d with
  | some dd => (match dd.look k with
    | some (some x) => .ok (.p x) os
    | some none => .ok z os
    | none => .bad)
  | none => .bad
def isDct (os : List O) (d : D) : Bool := (dctOf os d).isSome
def get2 (f g h : Sl → M D) : Sl → M D := fun S os => (f S os).bind fun d os => if isDct os d then (g S os).bind fun k os => (h S os).bind fun z => getD' d k z else .bad
def get1 (f g : Sl → M D) : Sl → M D := fun S os => (f S os).bind fun d os => if isDct os d then (g S os).bind fun k => getD' d k (.p .non) else .bad
section
variable {X : Cx} {W : XK} {o e x : Expr} {f g h : Sl → M D} {apos cpos : Pos}
theorem getD_core {K : PySem.W.Frag} {F : Hp} {ad : Ads} {os : List O} {H : Hp} {a : Addr} {y z : V} {d k zd : D} {Q : VK} (w : Own K F ad os H) (r1 : RelD K F ad d (.ref a)) (r2 : RelD K F ad k y) (r3 : RelD K F ad zd z) (q : OutE K W F ad Q (getD' d k zd os)) : ∃ ov, DGet H a y ov ∧ Q (ov.getD z) H := by
  unfold getD' at q
  cases e1 : dctOf os d with
  | none => rw [e1] at q; exact q.elim
  | some dd =>
    rw [e1] at q
    dsimp only at q
    cases e2 : dd.look k with
    | none => rw [e2] at q; exact q.elim
    | some o =>
      rw [e2] at q
      obtain ⟨a', ea, hd⟩ := dct_at w r1 e1
      cases ea
      obtain ⟨ov, gg, c⟩ := hd.get w.same r2 e2
      refine ⟨ov, gg, ?_⟩
      rcases c with ⟨rfl, rfl⟩ | ⟨p, v, rfl, rfl, rp⟩
      · exact q.now w r3
      · exact q.now w rp
theorem isDct_at {K : PySem.W.Frag} {F : Hp} {ad : Ads} {os : List O} {H : Hp} {d : D} {v : V} (w : Own K F ad os H) (r1 : RelD K F ad d v) (h : isDct os d = true) : ∃ a, v = .ref a ∧ IsD H a := by
  unfold isDct at h
  cases e1 : dctOf os d with
  | none => rw [e1] at h; cases h
  | some dd =>
    obtain ⟨a, rfl, hd⟩ := dct_at w r1 e1
    exact ⟨a, rfl, hd.isD⟩
theorem de_get2 (hu : X.A.units + 1 < cLine) (ho : DE X W o f) (he : DE X W e g) (hx : DE X W x h) (m : M2 X o "get" apos e x cpos) : DE X W (.Call (.Attribute o "get" apos) [e, x] [] cpos) (get2 f g h) := pe_imp (pe_dget2 hu ho he hx m) fun σ H Q ⟨S, os, F, ad, sl, w, q⟩ => by
  refine td_bind sl w ?_
  unfold get2 at q
  revert q
  cases f S os with
  | bad => exact fun q => q
  | ex x os1 => exact fun q => q
  | ok d os1 =>
    intro q F1 ad1 H1 v g1 w1 r1
    have q2 : OutE X.K W F ad Q (if isDct os1 d then (g S os1).bind fun k os => (h S os).bind fun z => getD' d k z else .bad) := q
    split at q2
    · rename_i hd
      obtain ⟨a, rfl, isd⟩ := isDct_at w1 r1 hd
      refine ⟨a, rfl, isd, td_bind (sl.mono g1) w1 ?_⟩
      revert q2
      cases g S os1 with
      | bad => exact fun q => q
      | ex x os2 => exact fun q => OutE.grow (r := .ex x os2) g1 q
      | ok k os2 =>
        intro q F2 ad2 H2 y g2 w2 r2
        refine td_bind (sl.mono (g1.trans g2)) w2 ?_
        revert q
        show OutE X.K W F ad Q ((h S os2).bind fun z => getD' d k z) → _
        cases h S os2 with
        | bad => exact fun q => q
        | ex x os3 => exact fun q => OutE.grow (r := .ex x os3) (g1.trans g2) q
        | ok z os3 => exact fun q F3 ad3 H3 u g3 w3 r3 => getD_core w3 ((r1.mono g2).mono g3) (r2.mono g3) r3 (OutE.grow (g1.trans (g2.trans g3)) q)
    · exact q2.elim
theorem de_get1 (hu : X.A.units + 1 < cLine) (ho : DE X W o f) (he : DE X W e g) (m : M1 X o "get" apos e cpos) : DE X W (.Call (.Attribute o "get" apos) [e] [] cpos) (get1 f g) := pe_imp (pe_dget1 hu ho he m) fun σ H Q ⟨S, os, F, ad, sl, w, q⟩ => by
  refine td_bind sl w ?_
  unfold get1 at q
  revert q
  cases f S os with
  | bad => exact fun q => q
  | ex x os1 => exact fun q => q
  | ok d os1 =>
    intro q F1 ad1 H1 v g1 w1 r1
    have q2 : OutE X.K W F ad Q (if isDct os1 d then (g S os1).bind fun k => getD' d k (.p .non) else .bad) := q
    split at q2
    · rename_i hd
      obtain ⟨a, rfl, isd⟩ := isDct_at w1 r1 hd
      refine ⟨a, rfl, isd, td_bind (sl.mono g1) w1 ?_⟩
      revert q2
      cases g S os1 with
      | bad => exact fun q => q
      | ex x os2 => exact fun q => OutE.grow (r := .ex x os2) g1 q
      | ok k os2 => exact fun q F2 ad2 H2 y g2 w2 r2 => getD_core w2 (r1.mono g2) r2 (zd := .p .non) .non (OutE.grow (g1.trans g2) q)
    · exact q2.elim
end
end DL
/-! DLg: statements, loops. -/
namespace DL
open PySem PySem.Spec
open PyProof.Rows L2

/-- how a statement ends -/
inductive Fl where
  | nx (S : Sl) | rt (d : D) | bk (S : Sl) | ct (S : Sl)
abbrev MS := Sl → M Fl
def OutS (K : PySem.W.Frag) (W : XK) (F : Hp) (ad : Ads) (T : Ends) : Res Fl → Prop
  | .ok (.nx S) os => ∀ F' ad' σ' H', Grow F ad F' ad' → SlR K F' ad' S σ' → Own K F' ad' os H' → T.nx σ' H'
  | .ok (.bk S) os => ∀ F' ad' σ' H', Grow F ad F' ad' → SlR K F' ad' S σ' → Own K F' ad' os H' → T.bk σ' H'
  | .ok (.ct S) os => ∀ F' ad' σ' H', Grow F ad F' ad' → SlR K F' ad' S σ' → Own K F' ad' os H' → T.ct σ' H'
  | .ok (.rt d) os => ∀ F' ad' v H', Grow F ad F' ad' → Own K F' ad' os H' → RelD K F' ad' d v → T.rt v H'
  | .ex x os => ∀ F' ad' H' cls dd, Grow F ad F' ad' → Own K F' ad' os H' → RelX K F' H' x cls dd → W cls dd H'
  | .bad => False
theorem OutS.grow {K : PySem.W.Frag} {W : XK} {F F1 : Hp} {ad ad1 : Ads} {T : Ends} (g : Grow F ad F1 ad1) {r : Res Fl} (h : OutS K W F ad T r) : OutS K W F1 ad1 T r := by
  cases r with
  | ok fl os =>
    cases fl with
    | nx S => exact fun F' ad' σ' H' g' => h F' ad' σ' H' (g.trans g')
    | bk S => exact fun F' ad' σ' H' g' => h F' ad' σ' H' (g.trans g')
    | ct S => exact fun F' ad' σ' H' g' => h F' ad' σ' H' (g.trans g')
    | rt d => exact fun F' ad' v H' g' => h F' ad' v H' (g.trans g')
  | ex x os => exact fun F' ad' H' cls dd g' => h F' ad' H' cls dd (g.trans g')
  | bad => exact h
def TDS (K : PySem.W.Frag) (W : XK) (f : MS) : TS := fun T σ H => ∃ S os F ad, SlR K F ad S σ ∧ Own K F ad os H ∧ OutS K W F ad T (f S os)
abbrev DS (X : Cx) (W : XK) (st : Stmt) (f : MS) : Prop := PS X st (TDS X.K W f)
abbrev DSs (X : Cx) (W : XK) (st : List Stmt) (f : MS) : Prop := PSs X st (TDS X.K W f)
theorem ps_imp {X : Cx} {e : Stmt} {t t' : TS} (h : PS X e t) (q : ∀ T σ H, t' T σ H → t T σ H) : PS X e t' := ⟨fun pins s σ H T I r => h.run pins s σ H T I (q T σ H r)⟩
theorem pss_imp {X : Cx} {e : List Stmt} {t t' : TS} (h : PSs X e t) (q : ∀ T σ H, t' T σ H → t T σ H) : PSs X e t' := ⟨fun pins s σ H T I r => h.run pins s σ H T I (q T σ H r)⟩
theorem pg_imp {X : Cx} {e : Expr} {t t' : TG} (h : PG X e t) (q : ∀ v σ H Q, t' v σ H Q → t v σ H Q) : PG X e t' := ⟨fun pins s σ H v u Q I rv r => h.run pins s σ H v u Q I rv (q v σ H Q r)⟩
theorem pgs_imp {X : Cx} {e : List Expr} {t t' : TGs} (h : PGs X e t) (q : ∀ v σ H Q, t' v σ H Q → t v σ H Q) : PGs X e t' := ⟨fun pins s σ H v u Q I rv r => h.run pins s σ H v u Q I rv (q v σ H Q r)⟩

/-! ### blocks -/
def skp : MS := fun S os => .ok (.nx S) os
def sq (f g : MS) : MS := fun S os => (f S os).bind fun fl os => match fl with
  | .nx S' => g S' os
  | fl => .ok fl os
def brk' : MS := fun S os => .ok (.bk S) os
def cnt' : MS := fun S os => .ok (.ct S) os
def drp (f : Sl → M D) : MS := fun S os => (f S os).bind fun _ os => .ok (.nx S) os
def ret (f : Sl → M D) : MS := fun S os => (f S os).bind fun d os => .ok (.rt d) os
def iff' (c : Sl → M Bool) (f g : MS) : MS := fun S os => (c S os).bind fun b os => match b with
  | true => f S os
  | false => g S os
section
variable {X : Cx} {W : XK} {st : Stmt} {rest : List Stmt} {f g : MS} {pos : Pos} {e : Expr} {fe : Sl → M D}
theorem dss_nil : DSs X W [] skp := pss_imp pss_nil fun T σ H ⟨S, os, F, ad, sl, w, q⟩ => q F ad σ H Grow.refl sl w
theorem dss_cons (h1 : DS X W st f) (h2 : DSs X W rest g) : DSs X W (st :: rest) (sq f g) := pss_imp (pss_cons h1 h2) fun T σ H ⟨S, os, F, ad, sl, w, q⟩ => by
  refine ⟨S, os, F, ad, sl, w, ?_⟩
  unfold sq at q
  revert q
  cases f S os with
  | bad => exact fun q => q
  | ex x os1 => exact fun q => q
  | ok fl os1 =>
    cases fl with
    | nx S1 => exact fun q F1 ad1 σ1 H1 g1 sl1 w1 => ⟨S1, os1, F1, ad1, sl1, w1, OutS.grow g1 q⟩
    | bk S1 => exact fun q => q
    | ct S1 => exact fun q => q
    | rt d => exact fun q => q
theorem dss_one (h1 : DS X W st f) : DSs X W [st] f := pss_one h1
theorem ds_pass : DS X W (.Pass pos) skp := ps_imp ps_pass fun T σ H ⟨S, os, F, ad, sl, w, q⟩ => q F ad σ H Grow.refl sl w
theorem ds_break : DS X W (.Break pos) brk' := ps_imp ps_break fun T σ H ⟨S, os, F, ad, sl, w, q⟩ => q F ad σ H Grow.refl sl w
theorem ds_continue : DS X W (.Continue pos) cnt' := ps_imp ps_continue fun T σ H ⟨S, os, F, ad, sl, w, q⟩ => q F ad σ H Grow.refl sl w
theorem ds_expr (h : DE X W e fe) (hs : swapsWith e none pos.line X.env = pure false := by rfl) : DS X W (.Expr e pos) (drp fe) := ps_imp (ps_expr h hs) fun T σ H ⟨S, os, F, ad, sl, w, q⟩ => by
  refine td_bind sl w ?_
  unfold drp at q
  revert q
  cases fe S os with
  | bad => exact fun q => q
  | ex x os1 => exact fun q => q
  | ok d os1 => exact fun q F1 ad1 H1 v g1 w1 r1 => q F1 ad1 σ H1 g1 (sl.mono g1) w1
theorem ds_ret (h : DE X W e fe) : DS X W (.Return (some e) pos) (ret fe) := ps_imp (ps_ret h) fun T σ H ⟨S, os, F, ad, sl, w, q⟩ => by
  refine ⟨S, os, F, ad, sl, w, ?_⟩
  unfold ret at q
  revert q
  cases fe S os with
  | bad => exact fun q => q
  | ex x os1 => exact fun q => q
  | ok d os1 => exact fun q F1 ad1 H1 v g1 w1 r1 => q F1 ad1 v H1 g1 w1 r1
theorem ds_retN : DS X W (.Return none pos) (ret (cst .non)) := ps_imp ps_retN fun T σ H ⟨S, os, F, ad, sl, w, q⟩ => q F ad .non H Grow.refl w .non
theorem ds_if {c : Expr} {a b : List Stmt} {fc : Sl → M Bool} (hc : DT X W c fc) (ha : DSs X W a f) (hb : DSs X W b g) : DS X W (.If c a b pos) (iff' fc f g) := ps_imp (ps_if hc ha hb) fun T σ H ⟨S, os, F, ad, sl, w, q⟩ => by
  refine ⟨S, os, F, ad, sl, w, ?_⟩
  unfold iff' at q
  revert q
  cases fc S os with
  | bad => exact fun q => q
  | ex x os1 => exact fun q => q
  | ok b os1 =>
    intro q F1 ad1 H1 g1 w1
    cases b with
    | true => exact iteT ⟨S, os1, F1, ad1, sl.mono g1, w1, OutS.grow g1 q⟩
    | false => exact iteF ⟨S, os1, F1, ad1, sl.mono g1, w1, OutS.grow g1 q⟩
end

/-! ### targets -/
abbrev Tgt := D → Sl → Option Sl
/-- the slots but those of is are as they were -/
structure Upd (is : List Nat) (σ σ' : L2.St) : Prop where
  len : σ'.length = σ.length
  out : ∀ j, j ∉ is → σ'[j]? = σ[j]?
theorem Upd.refl {is : List Nat} {σ : L2.St} : Upd is σ σ := ⟨rfl, fun _ _ => rfl⟩
theorem Upd.trans {is : List Nat} {σ σ1 σ2 : L2.St} (a : Upd is σ σ1) (b : Upd is σ1 σ2) : Upd is σ σ2 := ⟨b.len.trans a.len, fun j h => (b.out j h).trans (a.out j h)⟩
theorem Upd.mono {is js : List Nat} {σ σ' : L2.St} (a : Upd is σ σ') (h : ∀ i ∈ is, i ∈ js) : Upd js σ σ' := ⟨a.len, fun j hj => a.out j fun z => hj (h j z)⟩
def TDG (K : PySem.W.Frag) (is : List Nat) (g : Tgt) : TG := fun v σ H Q => ∃ S S' os F ad d, SlR K F ad S σ ∧ Own K F ad os H ∧ RelD K F ad d v ∧ g d S = some S' ∧ ∀ σ', SlR K F ad S' σ' → Upd is σ σ' → Q σ' H
abbrev DG (X : Cx) (tg : Expr) (is : List Nat) (g : Tgt) : Prop := PG X tg (TDG X.K is g)
def nam (i : Nat) : Tgt := fun d S => some (S.set i (some d))
abbrev Tgts := List P → Sl → Option Sl
def TDGs (K : PySem.W.Frag) (is : List Nat) (g : Tgts) : TGs := fun vs σ H Q => ∃ S S' os F ad ps, SlR K F ad S σ ∧ Own K F ad os H ∧ RepL K F ps vs ∧ g ps S = some S' ∧ ∀ σ', SlR K F ad S' σ' → Upd is σ σ' → Q σ' H
abbrev DGs (X : Cx) (ts : List Expr) (is : List Nat) (g : Tgts) : Prop := PGs X ts (TDGs X.K is g)
def nilT : Tgts := fun ps S => match ps with
  | [] => some S
  | _ => none
def consT (g : Tgt) (r : Tgts) : Tgts := fun ps S => match ps with
  | p :: ps => (g (.p p) S).bind (r ps)
  | [] => none
def unp (n : Nat) (r : Tgts) : Tgt := fun d S => match d with
  | .p (.tup xs) => if xs.length = n then r xs S else none
  | .p (.lst xs) => if xs.length = n then r xs S else none
  | _ => none
section
variable {X : Cx} {pos : Pos}
theorem dg_name {i : Nat} {x : Str} (hN : X.N.Nodup) (hi : X.N[i]? = some x) (hx : Loc X.env.scope x) (hf : X.fn x = true ∨ X.env.scope.names.lookup x = some .local := by first | exact .inl rfl | exact .inr rfl | assumption) : DG X (.Name x pos) [i] (nam i) :=
  pg_imp (pg_name hN hi hx hf) fun v σ H Q ⟨S, S', os, F, ad, d, sl, w, r, e, q⟩ => by
    cases e
    exact q _ (sl.set r) ⟨List.length_set, fun j hj => List.getElem?_set_ne (fun z => hj (by simp [z]))⟩
theorem dgs_nil : DGs X [] [] nilT := pgs_imp pgs_nil fun vs σ H Q ⟨S, S', os, F, ad, ps, sl, w, r, e, q⟩ => by
  cases r with
  | nil =>
    cases e
    exact ⟨rfl, q _ sl Upd.refl⟩
  | cons _ _ => cases e
theorem dgs_cons {e : Expr} {es : List Expr} {i1 i2 : List Nat} {g : Tgt} {r : Tgts} (h1 : DG X e i1 g) (h2 : DGs X es i2 r) (hs : (assignEach (e :: es) X.env).map (·.2) = assign e X.env :: (assignEach es X.env).map (·.2) := by rfl) : DGs X (e :: es) (i1 ++ i2) (consT g r) :=
  pgs_imp (pgs_cons h1 h2 hs) fun vs σ H Q ⟨S, S', os, F, ad, ps, sl, w, rp, e, q⟩ => by
    cases rp with
    | nil => cases e
    | @cons p v ps vs h t =>
      unfold consT at e
      dsimp only at e
      cases e1 : g (.p p) S with
      | none => rw [e1] at e; cases e
      | some S1 =>
        rw [e1] at e
        exact ⟨_, _, rfl, S, S1, os, F, ad, .p p, sl, w, h, e1, fun σ1 sl1 u1 => ⟨S1, S', os, F, ad, ps, sl1, w, t, e, fun σ2 sl2 u2 => q σ2 sl2 ((u1.mono fun i h => List.mem_append_left _ h).trans (u2.mono fun i h => List.mem_append_right _ h))⟩⟩
theorem pg_or {tg : Expr} {t t' : TG} (h : PG X tg t) (h' : PG X tg t') : PG X tg (fun v σ H Q => t v σ H Q ∨ t' v σ H Q) := ⟨fun pins s σ H v u Q I rv r => by
  rcases r with r | r
  · exact h.run pins s σ H v u Q I rv r
  · exact h'.run pins s σ H v u Q I rv r⟩
theorem dg_tup {es : List Expr} {k n : Nat} {is : List Nat} {r : Tgts} (hc : X.calm = true) (h : DGs X es is r) (hn : (assignEach es X.env).length = n := by rfl) (hst : (assignEach es X.env).findIdx? (·.1) = none := by rfl) : DG X (.Tuple es k pos) is (unp n r) :=
  pg_imp (pg_or (pg_tup hc h hn hst) (pg_lst hc h hn hst)) fun v σ H Q ⟨S, S', os, F, ad, d, sl, w, rd, e, q⟩ => by
    cases d with
    | own i => cases e
    | p x =>
      cases rd with
      | tup hh rr =>
        unfold unp at e
        dsimp only at e
        split at e
        · rename_i hl
          exact .inl ⟨_, _, rfl, .of (w.same _ _ hh), by rw [rr.length]; exact hl, S, S', os, F, ad, _, sl, w, rr, e, q⟩
        · cases e
      | lst hh rr =>
        unfold unp at e
        dsimp only at e
        split at e
        · rename_i hl
          exact .inr ⟨_, _, rfl, .of (w.same _ _ hh), by rw [rr.length]; exact hl, S, S', os, F, ad, _, sl, w, rr, e, q⟩
        · cases e
      | _ => cases e
end
def asg (f : Sl → M D) (g : Tgt) : MS := fun S os => (f S os).bind fun d os => match g d S with
  | some S' => .ok (.nx S') os
  | none => .bad
section
variable {X : Cx} {W : XK} {pos : Pos} {e tg : Expr} {f : Sl → M D} {g : Tgt}
theorem ds_asg {is : List Nat} (he : DE X W e f) (hg : DG X tg is g) (hs : swapsWithSole [tg] e pos.line X.env = pure false := by rfl) (hw : swappedStores [tg] e X.env = pure none := by rfl)
    (h1 : (assignEach [tg] X.env).map (·.2) = [assign tg X.env] := by rfl) : DS X W (.Assign [tg] e pos) (asg f g) := ps_imp (ps_asg he hg hs hw h1) fun T σ H ⟨S, os, F, ad, sl, w, q⟩ => by
  refine td_bind sl w ?_
  unfold asg at q
  revert q
  cases f S os with
  | bad => exact fun q => q
  | ex x os1 => exact fun q => q
  | ok d os1 =>
    intro q F1 ad1 H1 v g1 w1 r1
    have q2 : OutS X.K W F ad T (match g d S with
      | some S' => .ok (.nx S') os1
      | none => .bad) := q
    cases e1 : g d S with
    | none => rw [e1] at q2; exact q2.elim
    | some S1 =>
      rw [e1] at q2
      exact ⟨S, S1, os1, F1, ad1, d, sl.mono g1, w1, r1, e1, fun σ1 sl1 _ => q2 F1 ad1 σ1 H1 g1 sl1 w1⟩
/-- x = e, x in slot i -/
theorem ds_set {i : Nat} {x : Str} {pos' : Pos} (hN : X.N.Nodup) (hi : X.N[i]? = some x) (hx : Loc X.env.scope x) (he : DE X W e f) (hs : swapsWithSole [.Name x pos'] e pos.line X.env = pure false := by rfl) (hw : swappedStores [.Name x pos'] e X.env = pure none := by rfl)
    (hf : X.fn x = true ∨ X.env.scope.names.lookup x = some .local := by first | exact .inl rfl | exact .inr rfl | assumption) : DS X W (.Assign [.Name x pos'] e pos) (asg f (nam i)) := ds_asg he (dg_name hN hi hx hf) hs hw
/-- x += e -/
def aug (i : Nat) (h : D → D → M D) (f : Sl → M D) : MS := fun S os => match S[i]? with
  | some (some d) => (f S os).bind fun e os => (h d e os).bind fun z os => .ok (.nx (S.set i (some z))) os
  | _ => .bad
end

/-! ### stores: xs[i] = e, d[k] = e -/
def setV (o i : D) (v : D) (os : List O) : Option (List O) := match o, v with
  | .own n, .p x => (match os[n]? with
    | some (.lst xs) => (match i with
      | .p (.int k) => (ixN xs.length k).map fun j => os.set n (.lst (xs.set j x))
      | _ => none)
    | some (.dK kvs) => (match i with
      | .p k => (match keyP k with
        | some key => if kvs.length < sizeLine then some (os.set n (.dK (dput kvs key x))) else none
        | none => none)
      | _ => none)
    | some (.dT kvs) => (match i with
      | .p k => (match tkeyP k with
        | some key => if kvs.length < sizeLine then some (os.set n (.dT (dput kvs key x))) else none
        | none => none)
      | _ => none)
    | _ => none)
  | _, _ => none
def sto (fo fi fv : Sl → M D) : MS := fun S os => (fv S os).bind fun v os => (fo S os).bind fun o os => (fi S os).bind fun i os => match setV o i v os with
  | some os' => .ok (.nx S) os'
  | none => .bad
section
variable {X : Cx} {W : XK} {pos pos' : Pos} {e o i : Expr} {fo fi fv : Sl → M D}
abbrev rSetD : V → V → V → Hp → (Hp → Prop) → Prop := fun o i v H Q => ∃ a H4, o = .ref a ∧ DPut H a i v H4 ∧ Q H4
theorem set_dict (hu : X.A.units + 1 < cLine) : PSet X rSetD := by
  intro pins s σ H o i v ov iv u Q I ro ri rv h
  obtain ⟨a, H4, rfl, g, q⟩ := h
  obtain rfl : ov = Value.ref a := ro
  exact d_setItem hu I g ri rv fun s4 I4 => ⟨H4, I4, q⟩
theorem pset_or {t t' : V → V → V → Hp → (Hp → Prop) → Prop} (h : PSet X t) (h' : PSet X t') : PSet X (fun o i v H Q => t o i v H Q ∨ t' o i v H Q) := by
  intro pins s σ H o i v ov iv u Q I ro ri rv r
  rcases r with r | r
  · exact h pins s σ H o i v ov iv u Q I ro ri rv r
  · exact h' pins s σ H o i v ov iv u Q I ro ri rv r
theorem set_core {K : PySem.W.Frag} {F : Hp} {ad : Ads} {os os' : List O} {H : Hp} {o i v : D} {ov iv vv : V} {Q : Hp → Prop} (w : Own K F ad os H) (ro : RelD K F ad o ov) (ri : RelD K F ad i iv) (rv : RelD K F ad v vv) (e : setV o i v os = some os')
    (q : ∀ H', Own K F ad os' H' → Q H') : rSetL ov iv vv H Q ∨ rSetD ov iv vv H Q := by
  unfold setV at e
  cases o with
  | p a => cases e
  | own n =>
    cases v with
    | own j => cases e
    | p x =>
      dsimp only at e
      obtain ⟨a, ha, rfl⟩ := ro
      cases h : os[n]? with
      | none => rw [h] at e; cases e
      | some ob =>
        rw [h] at e
        obtain ⟨a', ha', r⟩ := w.at_ h
        rw [ha] at ha'
        cases ha'
        cases ob with
        | lst xs =>
          cases i with
          | own j => cases e
          | p ii =>
            cases ri with
            | int k =>
              dsimp only at e
              cases hj : ixN xs.length k with
              | none => rw [hj] at e; cases e
              | some j =>
                rw [hj] at e
                cases e
                obtain ⟨vs, hv, rr⟩ := r
                exact .inl ⟨a, vs, k, j, rfl, rfl, hv, by rw [rr.length]; exact hj, q _ (w.write h rfl ha rfl ⟨_, rfl, rr.set rv j⟩)⟩
            | _ => cases e
        | dK kvs =>
          cases i with
          | own j => cases e
          | p ii =>
            dsimp only at e
            cases hk : keyP ii with
            | none => rw [hk] at e; cases e
            | some key =>
              rw [hk] at e
              dsimp only at e
              split at e
              · rename_i hl
                cases e
                obtain ⟨vs, hv, rr⟩ := r
                exact .inr ⟨a, _, rfl, .inl ⟨vs, key, hv, rep_key ri hk, by rw [rr.length]; exact hl, rfl⟩, q _ (w.write h rfl ha rfl ⟨_, rfl, rr.put key rv⟩)⟩
              · cases e
        | dT kvs =>
          cases i with
          | own j => cases e
          | p ii =>
            dsimp only at e
            cases hk : tkeyP ii with
            | none => rw [hk] at e; cases e
            | some key =>
              rw [hk] at e
              dsimp only at e
              split at e
              · rename_i hl
                cases e
                obtain ⟨vs, hv, rr⟩ := r
                obtain ⟨b, rfl, hb⟩ := rep_tkey ri hk
                exact .inr ⟨a, _, rfl, .inr ⟨vs, key, b, hv, rfl, w.same _ _ hb, by rw [rr.length]; exact hl, rfl⟩, q _ (w.write h rfl ha rfl ⟨_, rfl, rr.put key rv⟩)⟩
              · cases e
        | _ => cases e
theorem ds_sto (hu : X.A.units + 1 < cLine) (hv : DE X W e fv) (ho : DE X W o fo) (hi : DE X W i fi) (hs : swapsWithSole [.Subscript o i pos'] e pos.line X.env = pure false := by rfl) (hw : swappedStores [.Subscript o i pos'] e X.env = pure none := by rfl)
    (ha : ∀ v, assign (.Subscript o i pos') X.env v = (do
      let ov ← holding [v] (eval o X.env)
      let iv ← holding [v, ov] (eval i X.env)
      standAt pos'
      holding [v, ov, iv] (setItem ov iv v)
      release [v, ov, iv] []) := by intro _; rfl) (h1 : (assignEach [.Subscript o i pos'] X.env).map (·.2) = [assign (.Subscript o i pos') X.env] := by rfl) :
    DS X W (.Assign [.Subscript o i pos'] e pos) (sto fo fi fv) := ps_imp (ps_asg hv (pg_sub ho hi (pset_or set_list (set_dict hu)) ha) hs hw h1) fun T σ H ⟨S, os, F, ad, sl, w, q⟩ => by
  refine td_bind sl w ?_
  unfold sto at q
  revert q
  cases fv S os with
  | bad => exact fun q => q
  | ex x os1 => exact fun q => q
  | ok v os1 =>
    intro q F1 ad1 H1 vv g1 w1 r1
    refine td_bind (sl.mono g1) w1 ?_
    revert q
    show OutS X.K W F ad T ((fo S os1).bind fun o os => (fi S os).bind fun i os => match setV o i v os with
      | some os' => .ok (.nx S) os'
      | none => .bad) → _
    cases fo S os1 with
    | bad => exact fun q => q
    | ex x os2 => exact fun q => OutE.grow (Q := T.rt) (r := .ex x os2) g1 q
    | ok od os2 =>
      intro q F2 ad2 H2 ov g2 w2 r2
      refine td_bind (sl.mono (g1.trans g2)) w2 ?_
      revert q
      show OutS X.K W F ad T ((fi S os2).bind fun i os => match setV od i v os with
        | some os' => .ok (.nx S) os'
        | none => .bad) → _
      cases fi S os2 with
      | bad => exact fun q => q
      | ex x os3 => exact fun q => OutE.grow (Q := T.rt) (r := .ex x os3) (g1.trans g2) q
      | ok id os3 =>
        intro q F3 ad3 H3 iv g3 w3 r3
        have q2 : OutS X.K W F ad T (match setV od id v os3 with
          | some os' => .ok (.nx S) os'
          | none => .bad) := q
        cases e1 : setV od id v os3 with
        | none => rw [e1] at q2; exact q2.elim
        | some os4 =>
          rw [e1] at q2
          have gg := g1.trans (g2.trans g3)
          exact set_core w3 (r2.mono g3) r3 ((r1.mono g2).mono g3) e1 fun H' w' => q2 F3 ad3 σ H' gg (sl.mono gg) w'
end

/-! ### what a loop walks -/
/-- J walks ps, as long as F stands -/
def Wk (K : PySem.W.Frag) (F : Hp) (ps : List P) (J : It) : Prop := ∀ F' ad' os' H', Same F F' → Own K F' ad' os' H' → ∀ i : Nat, (i = ps.length → J.stop i H') ∧ ∀ p, ps[i]? = some p → J.go i H' ∧ ∀ x H'', J.yld i H' x H'' → ∃ F'', Grow F' ad' F'' ad' ∧ Own K F'' ad' os' H'' ∧ Rep K F'' p x
def OutI (K : PySem.W.Frag) (W : XK) (F : Hp) (ad : Ads) (R : It → Hp → Prop) : Res (List P) → Prop
  | .ok ps os => ∀ F' ad' H' J, Grow F ad F' ad' → Own K F' ad' os H' → Wk K F' ps J → R J H'
  | .ex x os => ∀ F' ad' H' cls dd, Grow F ad F' ad' → Own K F' ad' os H' → RelX K F' H' x cls dd → W cls dd H'
  | .bad => False
def TDI (K : PySem.W.Frag) (W : XK) (f : Sl → M (List P)) : TI := fun σ H R => ∃ S os F ad, SlR K F ad S σ ∧ Own K F ad os H ∧ OutI K W F ad R (f S os)
abbrev DI (X : Cx) (W : XK) (tg iter : Expr) (f : Sl → M (List P)) : Prop := PI X tg iter (TDI X.K W f)
theorem pi_imp {X : Cx} {tg iter : Expr} {t t' : TI} (h : PI X tg iter t) (q : ∀ σ H R, t' σ H R → t σ H R) : PI X tg iter t' := ⟨fun pins s σ H R I r => h.run pins s σ H R I (q σ H R r)⟩
/-- a still list's, tuple's items -/
def itsL (d : D) : M (List P) := fun os => match d with
  | .p (.lst xs) => .ok xs os
  | _ => .bad
def itsT (d : D) : M (List P) := fun os => match d with
  | .p (.tup xs) => .ok xs os
  | _ => .bad
def upto (lo : Int) (n : Nat) : List P := (List.range n).map fun k => P.int (lo + (k : Nat))
def itsR1 (ds : List D) : M (List P) := fun os => match ds with
  | [.p (.int n)] => if -(2 ^ 62) ≤ n ∧ n < 2 ^ 62 then .ok (upto 0 n.toNat) os else .bad
  | _ => .bad
def itsR2 (ds : List D) : M (List P) := fun os => match ds with
  | [.p (.int a), .p (.int b)] => if -(2 ^ 62) ≤ a ∧ a < 2 ^ 62 ∧ -(2 ^ 62) ≤ b ∧ b < 2 ^ 62 then .ok (upto a (b - a).toNat) os else .bad
  | _ => .bad
section
variable {X : Cx} {W : XK} {tg l : Expr} {f : Sl → M D} {K : PySem.W.Frag}
theorem wk_list {F : Hp} {a : Addr} {ps : List P} {vs : List V} (h : F a = some (.lst vs)) (r : RepL K F ps vs) : Wk K F ps (Itl K a) := fun F' ad' os' H' s w i => by
  have hs : SqL K H' a vs := .of (w.same _ _ (s _ _ h))
  refine ⟨fun e => ⟨vs, hs, by rw [r.length]; omega⟩, fun p hp => ?_⟩
  obtain ⟨v, hv, rv⟩ := r.get hp
  refine ⟨⟨vs, v, hs, hv⟩, fun x H'' hy => ?_⟩
  obtain ⟨e, hy⟩ := hy
  subst e
  have ev := hy vs hs
  rw [hv] at ev
  cases ev
  exact ⟨F', Grow.refl, w, rv.mono s⟩
theorem wk_tup {F : Hp} {a : Addr} {ps : List P} {vs : List V} (h : F a = some (.tup vs)) (r : RepL K F ps vs) : Wk K F ps (Itt K a) := fun F' ad' os' H' s w i => by
  have hs : SqT K H' a vs := .of (w.same _ _ (s _ _ h))
  refine ⟨fun e => ⟨vs, hs, by rw [r.length]; omega⟩, fun p hp => ?_⟩
  obtain ⟨v, hv, rv⟩ := r.get hp
  refine ⟨⟨vs, v, hs, hv⟩, fun x H'' hy => ?_⟩
  obtain ⟨e, hy⟩ := hy
  subst e
  have ev := hy vs hs
  rw [hv] at ev
  cases ev
  exact ⟨F', Grow.refl, w, rv.mono s⟩
theorem wk_rng {F : Hp} {lo : Int} {n : Nat} : Wk K F (upto lo n) (Itr lo n) := fun F' ad' os' H' s w i => by
  have hl : (upto lo n).length = n := by simp [upto]
  refine ⟨fun e => by rw [hl] at e; subst e; exact Nat.le_refl _, fun p hp => ?_⟩
  have hi : i < n := by
    have := (List.getElem?_eq_some_iff.mp hp).1
    rw [hl] at this
    exact this
  refine ⟨hi, fun x H'' hy => ?_⟩
  obtain ⟨e1, e2⟩ := hy
  subst e1 e2
  have ep : p = .int (lo + (i : Nat)) := by
    unfold upto at hp
    rw [List.getElem?_map, List.getElem?_range hi] at hp
    exact (Option.some.inj hp).symm
  subst ep
  exact ⟨F', Grow.refl, w, .int _⟩
theorem di_list (h : DE X W l f) : DI X W tg l (op1 itsL f) := pi_imp (pi_list h) fun σ H R ⟨S, os, F, ad, sl, w, q⟩ => by
  refine td_bind sl w ?_
  unfold op1 at q
  revert q
  cases f S os with
  | bad => exact fun q => q
  | ex x os1 => exact fun q => q
  | ok d os1 =>
    intro q F1 ad1 H1 v g1 w1 r1
    cases d with
    | own i => exact q.elim
    | p x =>
      cases r1 with
      | lst hh r => exact ⟨_, rfl, ⟨_, .of (w1.same _ _ hh)⟩, q F1 ad1 H1 _ g1 w1 (wk_list hh r)⟩
      | _ => exact q.elim
theorem di_tup (h : DE X W l f) : DI X W tg l (op1 itsT f) := pi_imp (pi_tup h) fun σ H R ⟨S, os, F, ad, sl, w, q⟩ => by
  refine td_bind sl w ?_
  unfold op1 at q
  revert q
  cases f S os with
  | bad => exact fun q => q
  | ex x os1 => exact fun q => q
  | ok d os1 =>
    intro q F1 ad1 H1 v g1 w1 r1
    cases d with
    | own i => exact q.elim
    | p x =>
      cases r1 with
      | tup hh r => exact ⟨_, rfl, ⟨_, .of (w1.same _ _ hh)⟩, q F1 ad1 H1 _ g1 w1 (wk_tup hh r)⟩
      | _ => exact q.elim
/-- either, by its kind -/
def its (d : D) : M (List P) := fun os => match d with
  | .p (.lst xs) => .ok xs os
  | .p (.tup xs) => .ok xs os
  | _ => .bad
theorem pi_or {tg iter : Expr} {t t' : TI} (h : PI X tg iter t) (h' : PI X tg iter t') : PI X tg iter (fun σ H R => t σ H R ∨ t' σ H R) := ⟨fun pins s σ H R I r => by
  rcases r with r | r
  · exact h.run pins s σ H R I r
  · exact h'.run pins s σ H R I r⟩
theorem di_rng1 {a : Expr} {fa : Sl → M (List D)} {p pos : Pos} (hg : Gl X "range") (hm : X.mg "range" = none) (ha : DA X W [a] fa) (hs : starEach [a] X.env = [(false, eval a X.env)] := by rfl) : DI X W tg (.Call (.Name "range" p) [a] [] pos) (opN itsR1 fa) := pi_imp (pi_range1 hg hm ha hs) fun σ H R ⟨S, os, F, ad, sl, w, q⟩ => by
  refine ⟨S, os, F, ad, sl, w, ?_⟩
  unfold opN at q
  revert q
  cases fa S os with
  | bad => exact fun q => q
  | ex x os1 => exact fun q => q
  | ok ds os1 =>
    intro q F1 ad1 H1 vs g1 w1 rs
    have q2 : OutI X.K W F ad R (itsR1 ds os1) := q
    unfold itsR1 at q2
    match ds, rs, q2 with
    | [.p (.int n)], rs, q2 =>
      obtain ⟨v, rfl, r⟩ := vs1 rs
      cases r
      dsimp only at q2
      split at q2
      · rename_i hn
        exact ⟨n, rfl, hn.1, hn.2, q2 F1 ad1 H1 _ g1 w1 wk_rng⟩
      · exact q2.elim
theorem di_rng2 {a b : Expr} {fa : Sl → M (List D)} {p pos : Pos} (hg : Gl X "range") (hm : X.mg "range" = none) (ha : DA X W [a, b] fa) (hs : starEach [a, b] X.env = [(false, eval a X.env), (false, eval b X.env)] := by rfl) (hs2 : starEach [b] X.env = [(false, eval b X.env)] := by rfl) : DI X W tg (.Call (.Name "range" p) [a, b] [] pos) (opN itsR2 fa) := pi_imp (pi_range2 hg hm ha hs hs2) fun σ H R ⟨S, os, F, ad, sl, w, q⟩ => by
  refine ⟨S, os, F, ad, sl, w, ?_⟩
  unfold opN at q
  revert q
  cases fa S os with
  | bad => exact fun q => q
  | ex x os1 => exact fun q => q
  | ok ds os1 =>
    intro q F1 ad1 H1 vs g1 w1 rs
    have q2 : OutI X.K W F ad R (itsR2 ds os1) := q
    unfold itsR2 at q2
    match ds, rs, q2 with
    | [.p (.int n), .p (.int m)], rs, q2 =>
      obtain ⟨v, u, rfl, r, r'⟩ := vs2 rs
      cases r
      cases r'
      dsimp only at q2
      split at q2
      · rename_i hn
        exact ⟨n, m, rfl, hn, q2 F1 ad1 H1 _ g1 w1 wk_rng⟩
      · exact q2.elim
end

/-! ### for -/
def forS (g : Tgt) (body : MS) : List P → Sl → List O → Res Fl
  | [], S, os => .ok (.nx S) os
  | p :: ps, S, os => match g (.p p) S with
    | none => .bad
    | some S1 => (body S1 os).bind fun fl os => match fl with
      | .nx S2 => forS g body ps S2 os
      | .ct S2 => forS g body ps S2 os
      | .bk S2 => .ok (.nx S2) os
      | .rt d => .ok (.rt d) os
def for' (f : Sl → M (List P)) (g : Tgt) (body : MS) : MS := fun S os => (f S os).bind fun ps => forS g body ps S
section
variable {X : Cx} {W : XK} {tg iter : Expr} {body : List Stmt} {f : Sl → M (List P)} {g : Tgt} {fb : MS} {pos : Pos}
theorem for_run {K : PySem.W.Frag} {is : List Nat} {T : Ends} {J : It} {ps : List P} {S : Sl} {os : List O} {F : Hp} {ad : Ads} {σ : L2.St} {H : Hp} (sl : SlR K F ad S σ) (w : Own K F ad os H) (wk : Wk K F ps J) (q : OutS K W F ad T (forS g fb ps S os)) :
    ∃ Iv : Nat → Nat → L2.St → Hp → Prop, (∃ m, Iv 0 m σ H) ∧ ∀ i m σ H, Iv i m σ H →
      (J.stop i H ∧ T.nx σ H) ∨ (J.go i H ∧ ∃ N : L2.St → Hp → Prop, (∀ σ' H', N σ' H' → ∃ m', m' < m ∧ Iv (i + 1) m' σ' H') ∧ ∀ x H', J.yld i H x H' → TDG K is g x σ H' fun σ2 H2 => TDS K W fb { T with nx := N, ct := N, bk := T.nx } σ2 H2) := by
  refine ⟨fun i m σ H => i ≤ ps.length ∧ m = ps.length - i ∧ ∃ S os F1 ad1, Grow F ad F1 ad1 ∧ SlR K F1 ad1 S σ ∧ Own K F1 ad1 os H ∧ OutS K W F1 ad1 T (forS g fb (ps.drop i) S os), ⟨ps.length, Nat.zero_le _, by simp, S, os, F, ad, Grow.refl, sl, w, q⟩, ?_⟩
  rintro i m σ H ⟨hi, rfl, S, os, F1, ad1, g1, sl1, w1, q1⟩
  have hw := wk F1 ad1 os H g1.same w1 i
  by_cases hlt : i < ps.length
  · have hp : ps[i]? = some ps[i] := List.getElem?_eq_getElem hlt
    obtain ⟨go, yl⟩ := hw.2 _ hp
    rw [List.drop_eq_getElem_cons hlt] at q1
    unfold forS at q1
    cases e : g (.p ps[i]) S with
    | none => rw [e] at q1; exact q1.elim
    | some S1 =>
      rw [e] at q1
      refine .inr ⟨go, fun σ' H' => ∃ S os F2 ad2, Grow F ad F2 ad2 ∧ SlR K F2 ad2 S σ' ∧ Own K F2 ad2 os H' ∧ OutS K W F2 ad2 T (forS g fb (ps.drop (i + 1)) S os), ?_, fun x H' hy => ?_⟩
      · rintro σ' H' ⟨S, os, F2, ad2, g2, sl2, w2, q2⟩
        exact ⟨ps.length - (i + 1), by omega, hlt, rfl, S, os, F2, ad2, g2, sl2, w2, q2⟩
      · obtain ⟨F2, g2, w2, rp⟩ := yl x H' hy
        refine ⟨S, S1, os, F2, ad1, .p ps[i], sl1.mono g2, w2, rp, e, fun σ2 sl2 _ => ⟨S1, os, F2, ad1, sl2, w2, ?_⟩⟩
        have q2 := OutS.grow g2 q1
        revert q2
        show OutS K W F2 ad1 T ((fb S1 os).bind fun fl os => match fl with
          | .nx S2 => forS g fb (ps.drop (i + 1)) S2 os
          | .ct S2 => forS g fb (ps.drop (i + 1)) S2 os
          | .bk S2 => .ok (.nx S2) os
          | .rt d => .ok (.rt d) os) → _
        cases fb S1 os with
        | bad => exact fun q => q
        | ex x os1 => exact fun q => q
        | ok fl os1 =>
          cases fl with
          | nx S2 => exact fun q F3 ad3 σ3 H3 g3 sl3 w3 => ⟨S2, os1, F3, ad3, g1.trans (g2.trans g3), sl3, w3, OutS.grow g3 q⟩
          | ct S2 => exact fun q F3 ad3 σ3 H3 g3 sl3 w3 => ⟨S2, os1, F3, ad3, g1.trans (g2.trans g3), sl3, w3, OutS.grow g3 q⟩
          | bk S2 => exact fun q => q
          | rt d => exact fun q => q
  · have e : i = ps.length := by omega
    refine .inl ⟨hw.1 e, ?_⟩
    rw [e, List.drop_length] at q1
    exact q1 F1 ad1 σ H Grow.refl sl1 w1
theorem ds_for {is : List Nat} (hp : PassesOwn (model X.prog X.w) X.A X.env X.xe) (hc : X.calm = true) (hi : DI X W tg iter f) (hg : DG X tg is g) (hb : DSs X W body fb) (hs : ∀ x, foldedSetIterable iter X.env x = pure x := by intro _; rfl) : DS X W (.For tg iter body [] pos) (for' f g fb) :=
  ps_imp (ps_for hp hc hi hg hb hs) fun T σ H ⟨S, os, F, ad, sl, w, q⟩ => by
    refine ⟨S, os, F, ad, sl, w, ?_⟩
    unfold for' at q
    revert q
    cases f S os with
    | bad => exact fun q => q
    | ex x os1 => exact fun q => q
    | ok ps os1 => exact fun q F1 ad1 H1 J g1 w1 wk => for_run (sl.mono g1) w1 wk (OutS.grow g1 q)
end

/-! ### while: by turns, by whatever number is enough -/
def whS (c : Sl → M Bool) (fb : MS) : Nat → Sl → List O → Res Fl
  | 0, _, _ => .bad
  | n + 1, S, os => (c S os).bind fun b os => match b with
    | false => .ok (.nx S) os
    | true => (fb S os).bind fun fl os => match fl with
      | .nx S2 => whS c fb n S2 os
      | .ct S2 => whS c fb n S2 os
      | .bk S2 => .ok (.nx S2) os
      | .rt d => .ok (.rt d) os
open Classical in
noncomputable def wh (c : Sl → M Bool) (fb : MS) : MS := fun S os => if h : ∃ n, whS c fb n S os ≠ .bad then whS c fb (Classical.choose h) S os else .bad
theorem whS_more {c : Sl → M Bool} {fb : MS} : ∀ {n : Nat} {S : Sl} {os : List O}, whS c fb n S os ≠ .bad → ∀ m, n ≤ m → whS c fb m S os = whS c fb n S os
  | 0, _, _, h, _, _ => absurd rfl h
  | n + 1, S, os, h, m, hm => by
    obtain ⟨k, rfl⟩ : ∃ k, m = k + 1 := ⟨m - 1, by omega⟩
    unfold whS at h ⊢
    cases e : c S os with
    | bad => rfl
    | ex x os1 => rfl
    | ok b os1 =>
      rw [e] at h
      cases b with
      | false => rfl
      | true =>
        simp only [bind_ok] at h ⊢
        cases e2 : fb S os1 with
        | bad => rfl
        | ex x os2 => rfl
        | ok fl os2 =>
          rw [e2] at h
          simp only [bind_ok] at h ⊢
          cases fl with
          | nx S2 => exact whS_more h k (by omega)
          | ct S2 => exact whS_more h k (by omega)
          | bk S2 => rfl
          | rt d => rfl
theorem wh_eq {c : Sl → M Bool} {fb : MS} {n : Nat} {S : Sl} {os : List O} (h : whS c fb n S os ≠ .bad) : wh c fb S os = whS c fb n S os := by
  have hx : ∃ n, whS c fb n S os ≠ .bad := ⟨n, h⟩
  unfold wh
  rw [dif_pos hx]
  have h2 := Classical.choose_spec hx
  rcases Nat.le_total (Classical.choose hx) n with q | q
  · exact (whS_more h2 n q).symm
  · exact whS_more h _ q
section
variable {X : Cx} {W : XK} {c : Expr} {body : List Stmt} {fc : Sl → M Bool} {fb : MS} {pos : Pos}
theorem ds_while (hp : PassesOwn (model X.prog X.w) X.A X.env X.xe) (hc : DT X W c fc) (hb : DSs X W body fb) : DS X W (.While c body [] pos) (wh fc fb) :=
  ps_imp (ps_while hp hc hb) fun T σ H ⟨S, os, F, ad, sl, w, q⟩ => by
    by_cases hx : ∃ n, whS fc fb n S os ≠ .bad
    · obtain ⟨n, hn⟩ := hx
      rw [wh_eq hn] at q
      refine ⟨fun n σ H => ∃ S os F1 ad1, Grow F ad F1 ad1 ∧ SlR X.K F1 ad1 S σ ∧ Own X.K F1 ad1 os H ∧ OutS X.K W F1 ad1 T (whS fc fb n S os), ⟨n, S, os, F, ad, Grow.refl, sl, w, q⟩, ?_⟩
      rintro m σ H ⟨S, os, F1, ad1, g1, sl1, w1, q1⟩
      cases m with
      | zero => exact q1.elim
      | succ m =>
        refine ⟨S, os, F1, ad1, sl1, w1, ?_⟩
        unfold whS at q1
        revert q1
        cases fc S os with
        | bad => exact fun q => q
        | ex x os1 => exact fun q => q
        | ok b os1 =>
          intro q F2 ad2 H2 g2 w2
          cases b with
          | false => exact iteF (q F2 ad2 σ H2 g2 (sl1.mono g2) w2)
          | true =>
            refine iteT ⟨fun σ' H' => ∃ S os F3 ad3, Grow F ad F3 ad3 ∧ SlR X.K F3 ad3 S σ' ∧ Own X.K F3 ad3 os H' ∧ OutS X.K W F3 ad3 T (whS fc fb m S os), fun σ' H' h => ⟨m, by omega, h⟩, S, os1, F2, ad2, sl1.mono g2, w2, ?_⟩
            have q2 := OutS.grow g2 q
            revert q2
            show OutS X.K W F2 ad2 T ((fb S os1).bind fun fl os => match fl with
              | .nx S2 => whS fc fb m S2 os
              | .ct S2 => whS fc fb m S2 os
              | .bk S2 => .ok (.nx S2) os
              | .rt d => .ok (.rt d) os) → _
            cases fb S os1 with
            | bad => exact fun q => q
            | ex x os2 => exact fun q => q
            | ok fl os2 =>
              cases fl with
              | nx S2 => exact fun q F3 ad3 σ3 H3 g3 sl3 w3 => ⟨S2, os2, F3, ad3, g1.trans (g2.trans g3), sl3, w3, OutS.grow g3 q⟩
              | ct S2 => exact fun q F3 ad3 σ3 H3 g3 sl3 w3 => ⟨S2, os2, F3, ad3, g1.trans (g2.trans g3), sl3, w3, OutS.grow g3 q⟩
              | bk S2 => exact fun q => q
              | rt d => exact fun q => q
    · unfold wh at q
      rw [dif_neg hx] at q
      exact q.elim
end
end DL
/-! DLh: comprehensions, raise, try. -/
namespace DL
open PySem PySem.Spec
open PyProof.Rows L2

/-! ### comprehensions -/
def wipeS (S : Sl) : List Nat → Sl
  | [] => S
  | v :: vs => (wipeS S vs).set v none
theorem wipe_slr {K : PySem.W.Frag} {F : Hp} {ad : Ads} {S : Sl} {σ : L2.St} (sl : SlR K F ad S σ) : ∀ vs : List Nat, SlR K F ad (wipeS S vs) (wipe σ vs)
  | [] => sl
  | v :: vs => by
    have ih := wipe_slr sl vs
    refine ⟨by show ((wipeS S vs).set v none).length ≤ ((wipe σ vs).set v none).length; rw [List.length_set, List.length_set]; exact ih.len, fun i d e => ?_⟩
    have e' : ((wipeS S vs).set v none)[i]? = some (some d) := e
    by_cases h : i = v
    · subst h
      have hl : i < (wipeS S vs).length := by
        have := (List.getElem?_eq_some_iff.mp e').1
        rw [List.length_set] at this
        exact this
      rw [List.getElem?_set_self hl] at e'
      cases e'
    · rw [List.getElem?_set_ne (Ne.symm h)] at e'
      show ∃ u, ((wipe σ vs).set v none)[i]? = some (some u) ∧ _
      rw [List.getElem?_set_ne (Ne.symm h)]
      exact ih.at_ i d e'
theorem wipe_at (σ : L2.St) : ∀ (vs : List Nat) (j : Nat), (wipe σ vs)[j]? = if j ∈ vs then (if j < σ.length then some none else none) else σ[j]?
  | [], j => by simp [wipe]
  | v :: vs, j => by
    show ((wipe σ vs).set v none)[j]? = _
    by_cases h : j = v
    · subst h
      rw [if_pos (by simp)]
      by_cases hl : j < σ.length
      · rw [if_pos hl, List.getElem?_set_self (by rw [wipe_length]; exact hl)]
      · rw [if_neg hl, List.getElem?_eq_none (by rw [List.length_set, wipe_length]; omega)]
    · rw [List.getElem?_set_ne (Ne.symm h), wipe_at σ vs j]
      by_cases hm : j ∈ vs
      · rw [if_pos hm, if_pos (List.mem_cons_of_mem _ hm)]
      · rw [if_neg hm, if_neg (fun z => by
          rcases List.mem_cons.mp z with z | z
          · exact h z
          · exact hm z)]
theorem wipe_upd {σ σ' : L2.St} {vs is : List Nat} (u : Upd is (wipe σ vs) σ') (hs : ∀ i ∈ is, i ∈ vs) : wipe σ' vs = wipe σ vs := by
  refine List.ext_getElem? fun j => ?_
  have hl : σ'.length = σ.length := by rw [u.len, wipe_length]
  rw [wipe_at σ' vs j, wipe_at σ vs j, hl]
  by_cases hm : j ∈ vs
  · rw [if_pos hm, if_pos hm]
  · rw [if_neg hm, if_neg hm, u.out j (fun z => hm (hs j z)), wipe_at σ vs j, if_neg hm]

def yesB : Sl → M Bool := fun _ os => .ok true os
/-- the turns of a comprehension -/
def lcS (g : Tgt) (c : Sl → M Bool) (e : Sl → M D) : List P → List P → Sl → List O → Res (List P)
  | [], acc, _, os => .ok acc os
  | p :: ps, acc, S, os => match g (.p p) S with
    | none => .bad
    | some S1 => match c S1 os with
      | .ok false os1 => lcS g c e ps acc S os1
      | .ok true os1 => (match e S1 os1 with
        | .ok (.p x) os2 => if acc.length < sizeLine then lcS g c e ps (acc ++ [x]) S os2 else .bad
        | _ => .bad)
      | _ => .bad
def lc (f : Sl → M (List P)) (vs : List Nat) (g : Tgt) (c : Sl → M Bool) (e : Sl → M D) : Sl → M (List P) := fun S os => (f S os).bind fun ps => lcS g c e ps [] (wipeS S vs)
abbrev W0 : XK := fun _ _ _ => False
section
variable {X : Cx} {W : XK} {elt tg iter : Expr} {ifs : List Expr} {scope : Scope} {own : List (Str × Nat)} {pos : Pos} {f : Sl → M (List P)} {is : List Nat} {g : Tgt} {c : Sl → M Bool} {e : Sl → M D}
theorem dts_nil : PTs X [] (TDB X.K W yesB) := ⟨fun pins s σ H Q I ⟨S, os, F, ad, sl, w, q⟩ => pts_nil.run pins s σ H Q I (q F ad H Grow.refl w)⟩
theorem dts_one {t : Expr} (h : DT X W t c) : PTs X [t] (TDB X.K W c) := pts_one h
theorem lc_run {K : PySem.W.Frag} {vs : List Nat} (hsub : ∀ i ∈ is, i ∈ vs) {σ : L2.St} {H : Hp} {Q : VK} (h : TDF K W (lc f vs g c e) σ H Q) :
    tLc (TDI K W f) (TDG K is g) (TDB K W0 c) (TD K W0 e) vs σ H Q := by
  obtain ⟨S, os, F, ad, sl, w, q⟩ := h
  refine ⟨S, os, F, ad, sl, w, ?_⟩
  unfold lc at q
  revert q
  cases f S os with
  | bad => exact fun q => q
  | ex x os1 => exact fun q => q
  | ok ps os1 =>
    intro q F1 ad1 H1 J g1 w1 wk Dl nD
    have sl1 := wipe_slr (sl.mono g1) vs
    have hg1 := (w1.none_ nD).2.2
    refine ⟨fun i m H => i ≤ ps.length ∧ m = ps.length - i ∧ ∃ os F2 ad2 acc av, Grow F1 ad1 F2 ⟨ad2.l, ad1.g⟩ ∧ ad2.g = upd ad1.g Dl (.lst av) ∧ Own K F2 ad2 os H ∧ RepL K F2 acc av ∧ OutF K W F2 ⟨ad2.l, ad1.g⟩ Q (lcS g c e (ps.drop i) acc (wipeS S vs) os),
      ⟨ps.length, Nat.zero_le _, by simp, os1, F1, ⟨ad1.l, upd ad1.g Dl (.lst [])⟩, [], [], Grow.refl, rfl, w1.hide nD, .nil, OutF.grow g1 q⟩, ?_⟩
    rintro i m H ⟨hi, rfl, os, F2, ad2, acc, av, g2, eg, w2, ra, q2⟩
    have hw := wk F2 ad2 os H g2.same w2 i
    have hD : H Dl = some (.lst av) := (w2.prv Dl _ (by rw [eg, upd_same])).1
    by_cases hlt : i < ps.length
    · have hp : ps[i]? = some ps[i] := List.getElem?_eq_getElem hlt
      obtain ⟨go, yl⟩ := hw.2 _ hp
      rw [List.drop_eq_getElem_cons hlt] at q2
      unfold lcS at q2
      cases e1 : g (.p ps[i]) (wipeS S vs) with
      | none => rw [e1] at q2; exact q2.elim
      | some S1 =>
        rw [e1] at q2
        refine .inr ⟨go, fun H' => ∃ os F3 ad3 acc av, Grow F1 ad1 F3 ⟨ad3.l, ad1.g⟩ ∧ ad3.g = upd ad1.g Dl (.lst av) ∧ Own K F3 ad3 os H' ∧ RepL K F3 acc av ∧ OutF K W F3 ⟨ad3.l, ad1.g⟩ Q (lcS g c e (ps.drop (i + 1)) acc (wipeS S vs) os), ?_, fun x H' hy => ?_⟩
        · rintro H' ⟨os, F3, ad3, acc, av, g3, eg3, w3, ra3, q3⟩
          exact ⟨ps.length - (i + 1), by omega, hlt, rfl, os, F3, ad3, acc, av, g3, eg3, w3, ra3, q3⟩
        · obtain ⟨F3, g3, w3, rp⟩ := yl x H' hy
          have g13 : Grow F1 ad1 F3 ⟨ad2.l, ad1.g⟩ := ⟨g2.same.trans g3.same, g2.pre, rfl⟩
          have slw : SlR K F3 ad2 (wipeS S vs) (wipe σ vs) := ⟨sl1.len, fun j d hd => by
            obtain ⟨u, hu, ru⟩ := sl1.at_ j d hd
            refine ⟨u, hu, ?_⟩
            have := ru.mono g13
            cases d <;> exact this⟩
          refine ⟨wipeS S vs, S1, os, F3, ad2, .p ps[i], slw, w3, rp, e1, fun σ2 sl2 u2 => ⟨wipe_upd u2 hsub, S1, os, F3, ad2, sl2, w3, ?_⟩⟩
          revert q2
          dsimp only
          cases c S1 os with
          | bad => exact fun q => q.elim
          | ex x os2 => exact fun q => q.elim
          | ok b os2 =>
            cases b with
            | false =>
              intro q F4 ad4 H4 g4 w4
              refine iteF ⟨os2, F4, ad4, acc, av, ⟨g13.same.trans g4.same, fun i a hh => g4.pre i a (g13.pre i a hh), rfl⟩, g4.gs.trans eg, w4, (ra.mono g3.same).mono g4.same, ?_⟩
              exact OutF.grow (ad := ⟨ad2.l, ad1.g⟩) (ad1 := ⟨ad4.l, ad1.g⟩) ⟨g3.same.trans g4.same, fun i a hh => g4.pre i a hh, rfl⟩ q
            | true =>
              intro q F4 ad4 H4 g4 w4
              refine iteT ⟨S1, os2, F4, ad4, sl2.mono g4, w4, ?_⟩
              revert q
              dsimp only
              cases e S1 os2 with
              | bad => exact fun q => q.elim
              | ex x os3 => exact fun q => q.elim
              | ok d os3 =>
                cases d with
                | own j => exact fun q => q.elim
                | p z =>
                  dsimp only
                  split
                  · rename_i hz
                    intro q F5 ad5 H5 y g5 w5 ry
                    have hg5 : ad5.g = upd ad1.g Dl (.lst av) := g5.gs.trans (g4.gs.trans eg)
                    have hD5 : H5 Dl = some (.lst av) := (w5.prv Dl _ (by rw [hg5, upd_same])).1
                    have raa : RepL K F5 acc av := ((ra.mono g3.same).mono g4.same).mono g5.same
                    have wz := w5.rehide (p := Dl) (o := .lst (av ++ [y])) (u := .lst av) (by rw [hg5, upd_same])
                    refine ⟨av, hD5, by rw [raa.length]; exact hz, os3, F5, ⟨ad5.l, upd ad5.g Dl (.lst (av ++ [y]))⟩, acc ++ [z], av ++ [y], ⟨g13.same.trans (g4.same.trans g5.same), fun i a hh => g5.pre i a (g4.pre i a (g13.pre i a hh)), rfl⟩, ?_, wz, raa.snoc ry, ?_⟩
                    · show upd ad5.g Dl (.lst (av ++ [y])) = _
                      rw [hg5, upd_upd]
                    · exact OutF.grow (ad := ⟨ad2.l, ad1.g⟩) (ad1 := ⟨ad5.l, ad1.g⟩) ⟨g3.same.trans (g4.same.trans g5.same), fun i a hh => g5.pre i a (g4.pre i a hh), rfl⟩ q
                  · exact fun q => q.elim
    · have ei : i = ps.length := by omega
      refine .inl ⟨hw.1 ei, ?_⟩
      rw [ei, List.drop_length] at q2
      -- what was kept aside is told
      have q3 : ∀ F' ad' H' p vs, Grow F2 ⟨ad2.l, ad1.g⟩ F' ad' → Own K F' ad' os H' → H' p = none → RepL K F' acc vs → Q (.ref p) (upd H' p (.lst vs)) := q2
      have hx := w2.prv Dl _ (by rw [eg, upd_same])
      -- the heap without the list at Dl
      have hH : upd (fun a => if a = Dl then none else H a) Dl (.lst av) = H := by
        funext a
        by_cases z : a = Dl
        · rw [z, upd_same]; exact hD.symm
        · rw [upd_ne z]; show (if a = Dl then none else H a) = H a; rw [if_neg z]
      rw [← hH]
      refine q3 F2 ⟨ad2.l, ad1.g⟩ _ Dl av Grow.refl ?_ (by show (if Dl = Dl then none else H Dl) = none; rw [if_pos rfl]) ra
      have npa : ∀ {i : Nat} {x : O} {a : Addr}, os[i]? = some x → x.live = true → ad2.l[i]? = some a → a ≠ Dl := fun hu hl ha z => by
        have := (w2.off _ _ _ hu hl ha).2
        rw [z, eg, upd_same] at this
        cases this
      refine ⟨w2.len, fun a qa qg => ?_, fun i u a hu hl ha => ?_, fun i u a hu ha => ?_, w2.inj, fun a u ee => ?_⟩
      · show (if a = Dl then none else H a) = F2 a
        by_cases z : a = Dl
        · rw [if_pos z, z]; exact hx.2.symm
        · rw [if_neg z]
          exact w2.out a qa (by rw [eg, upd_ne z]; exact qg)
      · obtain ⟨h1, h2⟩ := w2.off i u a hu hl ha
        have z := npa hu hl ha
        rw [eg, upd_ne z] at h2
        exact ⟨h1, h2⟩
      · show ObjR K F2 _ u (if a = Dl then none else H a)
        cases hl : u.live with
        | true =>
          rw [if_neg (npa hu hl ha)]
          exact ObjR.rel (g := ad2.g) (w2.obj i u a hu ha)
        | false =>
          cases u with
          | dead => trivial
          | _ => cases hl
      · have ee' : ad1.g a = some u := ee
        have z : a ≠ Dl := fun z => by
          rw [z, hg1] at ee'
          cases ee'
        obtain ⟨h1, h2⟩ := w2.prv a u (by rw [eg, upd_ne z]; exact ee')
        exact ⟨by show (if a = Dl then none else H a) = some u; rw [if_neg z]; exact h1, h2⟩
theorem df_lc (hc : X.calm = true) (hN : X.N.Nodup) (hi : DI X W tg iter f) (ok : BlkOk X.N X.env.scope scope own) (hsub : ∀ i ∈ is, i ∈ own.map (·.2))
    (hg : ∀ (s : Shared) (H : Hp) (C : Addr) (cl : List (Str × Addr)) (fp : List Addr), DG (X.blk s H scope (compEnvC scope cl C X.env) fp) tg is g) (ht : ∀ (s : Shared) (H : Hp) (C : Addr) (cl : List (Str × Addr)) (fp : List Addr), PTs (X.blk s H scope (compEnvC scope cl C X.env) fp) ifs (TDB X.K W0 c))
    (he : ∀ (s : Shared) (H : Hp) (C : Addr) (cl : List (Str × Addr)) (fp : List Addr), DE (X.blk s H scope (compEnvC scope cl C X.env) fp) W0 elt e) (hs : ∀ x, foldedSetIterable iter X.env x = pure x := by intro _; rfl) :
    DF X W (.ListComp elt [⟨tg, iter, ifs, 0⟩] scope pos) (lc f (own.map (·.2)) g c e) := pe_imp (pe_lc hc hN hi ok hg ht he hs) fun σ H Q => lc_run hsub
/-- name = [..]: r makes the new list a value (still, or owned) -/
def asgL (r : M (List P) → M D) (f : Sl → M (List P)) (i : Nat) : MS := fun S os => (r (f S) os).bind fun d os => .ok (.nx (S.set i (some d))) os
theorem asgL_run {K : PySem.W.Frag} {i : Nat} {h : Sl → M (List P)} {r : M (List P) → M D} (hr : ∀ (m : M (List P)) (os : List O) (F : Hp) (ad : Ads) (Q : VK), OutE K W F ad Q (r m os) → OutF K W F ad Q (m os)) {T : Ends} {σ : L2.St} {H : Hp} {t : TE} (ht : ∀ σ H Q, TDF K W h σ H Q → t σ H Q)
    (q : TDS K W (asgL r h i) T σ H) : tAsg t (gName i) T σ H := by
  obtain ⟨S, os, F, ad, sl, w, q⟩ := q
  refine ht _ _ _ ⟨S, os, F, ad, sl, w, hr _ _ _ _ _ ?_⟩
  unfold asgL at q
  revert q
  cases r (h S) os with
  | bad => exact fun q => q
  | ex x os1 => exact fun q => q
  | ok d os1 => exact fun q F1 ad1 H1 v g1 w1 r1 => q F1 ad1 _ H1 g1 ((sl.mono g1).set r1) w1
theorem ds_setLc {i : Nat} {y : Str} {py spos : Pos} {r : M (List P) → M D} (hr : ∀ (m : M (List P)) (os : List O) (F : Hp) (ad : Ads) (Q : VK), OutE X.K W F ad Q (r m os) → OutF X.K W F ad Q (m os)) (hc : X.calm = true) (hN : X.N.Nodup) (hy : X.N[i]? = some y) (hyl : X.env.scope.names.lookup y = some .local)
    (hsw : swapsWith (.ListComp elt [⟨tg, iter, ifs, 0⟩] scope pos) (some (.Name y py)) spos.line X.env = pure true) (hi : DI X W tg iter f) (ok : BlkOk X.N X.env.scope scope own) (hsub : ∀ i ∈ is, i ∈ own.map (·.2))
    (hg : ∀ (s : Shared) (H : Hp) (C : Addr) (cl : List (Str × Addr)) (fp : List Addr), DG (X.blk s H scope (compEnvC scope cl C X.env) fp) tg is g) (ht : ∀ (s : Shared) (H : Hp) (C : Addr) (cl : List (Str × Addr)) (fp : List Addr), PTs (X.blk s H scope (compEnvC scope cl C X.env) fp) ifs (TDB X.K W0 c))
    (he : ∀ (s : Shared) (H : Hp) (C : Addr) (cl : List (Str × Addr)) (fp : List Addr), DE (X.blk s H scope (compEnvC scope cl C X.env) fp) W0 elt e) (hs : ∀ x, foldedSetIterable iter X.env x = pure x := by intro _; rfl) :
    DS X W (.Assign [.Name y py] (.ListComp elt [⟨tg, iter, ifs, 0⟩] scope pos) spos) (asgL r (lc f (own.map (·.2)) g c e) i) := ps_imp (ps_setLc hc hN hy hyl hsw hi ok hg ht he hs) fun T σ H => asgL_run hr fun σ H Q => lc_run hsub
end

/-! ### raise, try -/
def rse (c : Str) : MS := fun _ os => .ex ⟨c, none⟩ os
/-- an except suite that raises is not told -/
def noEx (r : Res Fl) : Res Fl := match r with
  | .ex _ _ => .bad
  | r => r
theorem OutS.noEx {K : PySem.W.Frag} {W W2 : XK} {F : Hp} {ad : Ads} {T : Ends} {r : Res Fl} (h : OutS K W F ad T (noEx r)) : OutS K W2 F ad T r := by
  cases r with
  | ok fl os => cases fl <;> exact h
  | ex x os => exact h.elim
  | bad => exact h
/-- m: which exceptions the clause takes -/
def tryD (m : Str → Option Bool) (f fs : MS) : MS := fun S os => match f S os with
  | .ex x os1 => (match m x.cls with
    | some true => noEx (fs [] os1)
    | some false => .ex x os1
    | none => .bad)
  | r => r
section
variable {X : Cx} {W : XK} {x : Str} {pos pos' np p p2 : Pos}
theorem ds_raise {msg : Str} {j : Nat} (hc : X.calm = true) (tk : Takes X (fun cls d _ H => W cls d H)) (hg : Gl X x) (fa : (He.Fa.exc x).ok X.K = true) (hm : X.mg x = some (.ref (He.ga X.K x))) (hdb : (x == ("__debug__" : Str)) = false := by decide) :
    DS X W (.Raise (some (.Call (.Name x p) [.Constant (.str msg) j p2] [] pos')) none pos) (rse x) := by
  obtain ⟨h1, h2, h3, h4⟩ := He.exc_ok fa
  exact ps_imp (ps_raise hc tk (pmk_own PySem.F.excBase_ValueError h1 hm h2 (raises_own h3 h4) hg hdb)) fun T σ H ⟨S, os, F, ad, sl, w, q⟩ => q F ad H _ none Grow.refl w ⟨rfl, rfl⟩
theorem ds_try {body suite : List Stmt} {b₀ : Stmt} {c : Value} {f fs : MS} {m : Str → Option Bool} (hs : X.stack = X.env :: X.outer) (hf : X.env.frame = some X.env.locals) (hc : Names X x c) (tk : Takes X (fun cls d _ H => W cls d H))
    (hm : ∀ y b, m y = some b → PySem.W.exmOne X.K (.ref (He.ga X.K y)) c = some b)
    (hb : ∀ (W2 : XK) (pn : List (Addr × Obj)) (xe : Value → Shared → Prop), Takes (X.tr pn xe) (fun cls d _ H => W2 cls d H) → PassesOwn (model X.prog X.w) X.A X.env xe → DSs (X.tr pn xe) W2 body f)
    (hsu : ∀ (a : Addr) (oe : Obj) (pn : List (Addr × Obj)), DSs (X.suite a ((a, oe) :: pn)) W0 (b₀ :: suite) fs) :
    DS X W (.Try body [.ExceptHandler (some (.Name x np)) none (b₀ :: suite) pos'] [] [] pos) (tryD m f fs) :=
  ps_imp (ps_try_only (tb := fun Wx => TDS X.K (fun cls d H => ∀ σ, Wx cls d σ H) f) (ts := fun _ _ _ => TDS X.K W0 fs) hs hf hc tk
    (fun Wx pn xe tk2 hp => hb _ pn xe (tk2.imp fun c d σ H h => h σ) hp) (fun a oe cls d pn _ _ => hsu a oe pn)) fun T σ H ⟨S, os, F, ad, sl, w, q⟩ => by
    refine ⟨S, os, F, ad, sl, w, ?_⟩
    unfold tryD at q
    revert q
    cases f S os with
    | bad => exact fun q => q
    | ok fl os1 => cases fl <;> exact fun q => q
    | ex y os1 =>
      dsimp only
      intro q F1 ad1 H1 cls dd g1 w1 rx σ1
      cases e : m y.cls with
      | none => rw [e] at q; exact q.elim
      | some b =>
        rw [e] at q
        obtain ⟨rfl, rx2⟩ := id rx
        refine ⟨b, hm _ _ e, fun hb a na => ?_, fun hb => ?_⟩
        · subst hb
          exact ⟨[], os1, F1, ad1, ⟨Nat.zero_le _, fun i d h => by cases h⟩, w1, OutS.grow g1 (OutS.noEx q)⟩
        · subst hb
          exact q F1 ad1 H1 _ dd g1 w1 rx
end
end DL
/-! DLi: defs and calls. -/
namespace DL
open PySem PySem.Spec
open PyProof.Rows L2

/-- its fields hold no owned objects -/
def isP : D → Bool
  | .p _ => true
  | .own _ => false
def O.flat : O → Bool
  | .ins _ fs => fs.all fun q => isP q.2
  | .dead => false
  | _ => true
theorem O.flat_live {o : O} (h : o.flat = true) : o.live = true := by
  cases o with
  | dead => cases h
  | _ => rfl
section
variable {K : PySem.W.Frag}
theorem RelF.flat {F : Hp} {ad ad' : Ads} {fs : List (Str × D)} {vs : List (Str × V)} (r : RelF K F ad fs vs) (h : (fs.all fun q => isP q.2) = true) : RelF K F ad' fs vs := by
  induction r with
  | nil => exact .nil
  | @cons k d v ds vs hd _ ih =>
    rw [List.all_cons, Bool.and_eq_true] at h
    refine .cons ?_ (ih h.2)
    cases d with
    | p x => exact hd
    | own i => cases h.1
theorem ObjR.flat {F : Hp} {ad ad' : Ads} {o : O} {h : Option HO} (r : ObjR K F ad o h) (hf : o.flat = true) : ObjR K F ad' o h := by
  cases o with
  | ins C fs =>
    obtain ⟨dx, vs, h1, r⟩ := r
    exact ⟨dx, vs, h1, r.flat hf⟩
  | dead => cases hf
  | _ => exact r
end

/-! ### some of the owned objects -/
/-- the objects at ids, in that order; none: one is not there, or not flat -/
def pickO (os : List O) : List Nat → Option (List O)
  | [] => some []
  | i :: is => match os[i]? with
    | some o => if o.flat = true then (pickO os is).map (o :: ·) else none
    | none => none
theorem pickO_at {os : List O} : ∀ {ids : List Nat} {r : List O}, pickO os ids = some r → r.length = ids.length ∧ ∀ (k : Nat) (i : Nat), ids[k]? = some i → ∃ o, os[i]? = some o ∧ o.flat = true ∧ r[k]? = some o
  | [], r, h => by
    cases h
    exact ⟨rfl, fun k i e => by cases e⟩
  | i :: ids, r, h => by
    unfold pickO at h
    cases e : os[i]? with
    | none => rw [e] at h; cases h
    | some o =>
      rw [e] at h
      dsimp only at h
      split at h
      · rename_i hf
        cases e2 : pickO os ids with
        | none => rw [e2] at h; cases h
        | some r' =>
          rw [e2] at h
          cases h
          obtain ⟨h1, h2⟩ := pickO_at e2
          refine ⟨by rw [List.length_cons, List.length_cons, h1], fun k j ej => ?_⟩
          cases k with
          | zero =>
            cases ej
            exact ⟨o, e, hf, rfl⟩
          | succ k => exact h2 k j ej
      · cases h
def adsOf (ad : Ads) (ids : List Nat) : List Addr := ids.map fun i => ad.l.getD i 0
open Classical in
/-- what stands aside for a callee: the caller's, and the caller's objects that are not handed over -/
noncomputable def asideOf (ad : Ads) (os : List O) (ids : List Nat) (H : Hp) : Hp := fun a => if ∃ (i : Nat) (o : O), os[i]? = some o ∧ o.live = true ∧ ad.l[i]? = some a ∧ i ∉ ids then H a else ad.g a
theorem asideOf_in {ad : Ads} {os : List O} {ids : List Nat} {H : Hp} {a : Addr} (c : ∃ (i : Nat) (o : O), os[i]? = some o ∧ o.live = true ∧ ad.l[i]? = some a ∧ i ∉ ids) : asideOf ad os ids H a = H a := if_pos c
theorem asideOf_out {ad : Ads} {os : List O} {ids : List Nat} {H : Hp} {a : Addr} (c : ¬ ∃ (i : Nat) (o : O), os[i]? = some o ∧ o.live = true ∧ ad.l[i]? = some a ∧ i ∉ ids) : asideOf ad os ids H a = ad.g a := if_neg c
section
variable {K : PySem.W.Frag} {F : Hp} {ad : Ads} {os : List O} {H : Hp}
theorem adsOf_at (w : Own K F ad os H) {ids : List Nat} {k i : Nat} {o : O} (hk : ids[k]? = some i) (ho : os[i]? = some o) : ∃ a, (adsOf ad ids)[k]? = some a ∧ ad.l[i]? = some a := by
  obtain ⟨a, ha, _⟩ := w.at_ ho
  refine ⟨a, ?_, ha⟩
  unfold adsOf
  rw [List.getElem?_map, hk]
  show some (ad.l.getD i 0) = some a
  rw [List.getD_eq_getElem?_getD, ha]
  rfl
theorem Own.focus (w : Own K F ad os H) {ids : List Nat} {r : List O} (hp : pickO os ids = some r) (nd : ids.Nodup) : Own K F ⟨adsOf ad ids, asideOf ad os ids H⟩ r H := by
  obtain ⟨hl, hat⟩ := pickO_at hp
  have back : ∀ {k : Nat} {o : O} {a : Addr}, r[k]? = some o → (adsOf ad ids)[k]? = some a → ∃ i, ids[k]? = some i ∧ os[i]? = some o ∧ o.flat = true ∧ ad.l[i]? = some a := fun {k o a} ho ha => by
    have hk : k < ids.length := by
      rw [← hl]
      exact (List.getElem?_eq_some_iff.mp ho).1
    obtain ⟨o', h1, h2, h3⟩ := hat k ids[k] (List.getElem?_eq_getElem hk)
    rw [ho] at h3
    cases h3
    obtain ⟨a', h4, h5⟩ := adsOf_at w (List.getElem?_eq_getElem hk) h1
    rw [ha] at h4
    cases h4
    exact ⟨_, List.getElem?_eq_getElem hk, h1, h2, h5⟩
  have aside : ∀ {i : Nat} {o : O} {a : Addr}, i ∈ ids → os[i]? = some o → o.live = true → ad.l[i]? = some a → asideOf ad os ids H a = none := fun {i o a} hi ho hol ha => by
    unfold asideOf
    rw [if_neg]
    · exact (w.off i o a ho hol ha).2
    · rintro ⟨j, u, hu, hul, hua, hj⟩
      have e := w.inj i j o u a ho hol hu hul ha hua
      exact hj (e ▸ hi)
  refine ⟨by show (adsOf ad ids).length = _; unfold adsOf; rw [List.length_map, hl], fun a q qg => ?_, fun k o a ho hol ha => ?_, fun k o a ho ha => ?_, fun k m o u a ho hol hu hul ha hb => ?_, fun a o e => ?_⟩
  · have qg' : asideOf ad os ids H a = none := qg
    unfold asideOf at qg'
    split at qg'
    · rename_i hx
      obtain ⟨i, o, ho, hol, ha, _⟩ := hx
      rw [qg', (w.off i o a ho hol ha).1]
    · rename_i hx
      refine w.out a (fun i o ho hol ha => ?_) qg'
      by_cases hi : i ∈ ids
      · obtain ⟨k, hk⟩ := List.mem_iff_getElem?.mp hi
        obtain ⟨o', h1, h2, h3⟩ := hat k i hk
        rw [ho] at h1
        cases h1
        obtain ⟨a', h4, h5⟩ := adsOf_at w hk ho
        rw [ha] at h5
        cases h5
        exact q k o h3 hol h4
      · exact hx ⟨i, o, ho, hol, ha, hi⟩
  · obtain ⟨i, h1, h2, h3, h4⟩ := back ho ha
    exact ⟨(w.off i o a h2 hol h4).1, aside (List.mem_of_getElem? h1) h2 hol h4⟩
  · obtain ⟨i, h1, h2, h3, h4⟩ := back ho ha
    exact (w.obj i o a h2 h4).flat h3
  · obtain ⟨i, h1, h2, h3, h4⟩ := back ho ha
    obtain ⟨j, k1, k2, k3, k4⟩ := back hu hb
    have e := w.inj i j o u a h2 hol k2 hul h4 k4
    rw [← e] at k1
    obtain ⟨lk, ek⟩ := List.getElem?_eq_some_iff.mp h1
    obtain ⟨lm, em⟩ := List.getElem?_eq_some_iff.mp k1
    exact (List.getElem_inj nd).mp (ek.trans em.symm)
  · have e' : asideOf ad os ids H a = some o := e
    unfold asideOf at e'
    split at e'
    · rename_i hx
      obtain ⟨i, u, hu, hul, ha, _⟩ := hx
      exact ⟨e', (w.off i u a hu hul ha).1⟩
    · exact w.prv a o e'
/-- objects put back at ids -/
def putB (os : List O) : List Nat → List O → List O
  | i :: is, o :: r => putB (os.set i o) is r
  | _, _ => os
theorem putB_len : ∀ {ids : List Nat} {os r : List O}, (putB os ids r).length = os.length
  | [], _, _ => by unfold putB; rfl
  | _ :: _, _, [] => by unfold putB; rfl
  | i :: is, os, o :: r => by
    unfold putB
    rw [putB_len, List.length_set]
theorem putB_out : ∀ {ids : List Nat} {os r : List O} {j : Nat}, j ∉ ids → (putB os ids r)[j]? = os[j]?
  | [], _, _, _, _ => by unfold putB; rfl
  | _ :: _, _, [], _, _ => by unfold putB; rfl
  | i :: is, os, o :: r, j, h => by
    unfold putB
    rw [putB_out (fun z => h (List.mem_cons_of_mem _ z)), List.getElem?_set_ne (fun z => h (by simp [z]))]
theorem putB_in : ∀ {ids : List Nat} {os r : List O} {k i : Nat}, ids.Nodup → ids.length ≤ r.length → (∀ i ∈ ids, i < os.length) → ids[k]? = some i → (putB os ids r)[i]? = r[k]?
  | [], _, _, _, _, _, _, _, e => by cases e
  | _ :: _, _, [], _, _, _, h, _, _ => by simp at h
  | j :: is, os, o :: r, k, i, nd, hl, hb, e => by
    unfold putB
    obtain ⟨n1, n2⟩ := List.nodup_cons.mp nd
    cases k with
    | zero =>
      cases e
      rw [putB_out n1, List.getElem?_set_self (hb _ (by simp))]
      rfl
    | succ k =>
      exact putB_in n2 (by simpa using hl) (fun m hm => by rw [List.length_set]; exact hb m (List.mem_cons_of_mem _ hm)) e
/-- behind a callee -/
theorem Own.unfocus (w : Own K F ad os H) {ids : List Nat} {r r' : List O} {F' : Hp} {ad' : Ads} {H' : Hp} (hp : pickO os ids = some r) (nd : ids.Nodup) (g : Grow F ⟨adsOf ad ids, asideOf ad os ids H⟩ F' ad') (w' : Own K F' ad' r' H') (hl : r'.length = ids.length) (hf : r'.all O.flat = true) :
    Own K F' ad (putB os ids r') H' ∧ Grow F ad F' ad := by
  obtain ⟨hlr, hat⟩ := pickO_at hp
  have hb : ∀ i ∈ ids, i < os.length := fun i hi => by
    obtain ⟨k, hk⟩ := List.mem_iff_getElem?.mp hi
    obtain ⟨o, h1, _, _⟩ := hat k i hk
    exact (List.getElem?_eq_some_iff.mp h1).1
  have gr : Grow F ad F' ad := ⟨g.same, fun _ _ h => h, rfl⟩
  have hg : ad'.g = asideOf ad os ids H := g.gs
  -- an object that is not handed over
  have old : ∀ {i : Nat} {o : O} {a : Addr}, i ∉ ids → os[i]? = some o → o.live = true → ad.l[i]? = some a → H' a = H a ∧ F' a = none ∧ ad'.g a ≠ none := fun {i o a} hi ho hol ha => by
    obtain ⟨u, hu⟩ := (w.obj i o a ho ha).some_of hol
    have e : ad'.g a = some u := by
      rw [hg]
      unfold asideOf
      rw [if_pos ⟨i, o, ho, hol, ha, hi⟩, hu]
    obtain ⟨h1, h2⟩ := w'.prv a u e
    exact ⟨by rw [h1, hu], h2, by rw [e]; simp⟩
  have new : ∀ {i : Nat}, i ∈ ids → ∃ k o a, ids[k]? = some i ∧ (putB os ids r')[i]? = some o ∧ r'[k]? = some o ∧ o.flat = true ∧ ad.l[i]? = some a ∧ ad'.l[k]? = some a := fun {i} hi => by
    obtain ⟨k, hk⟩ := List.mem_iff_getElem?.mp hi
    obtain ⟨o, h1, _, h3⟩ := hat k i hk
    obtain ⟨a, h4, h5⟩ := adsOf_at w hk h1
    have hkl : k < r'.length := by
      rw [hl]
      exact (List.getElem?_eq_some_iff.mp hk).1
    have hr : r'[k]? = some r'[k] := List.getElem?_eq_getElem hkl
    exact ⟨k, r'[k], a, hk, by rw [putB_in nd (Nat.le_of_eq hl.symm) hb hk, hr], hr, List.all_eq_true.mp hf _ (List.mem_of_getElem? hr), h5, g.pre k a h4⟩
  have gof : ∀ {a : Addr} {o : HO}, ad.g a = some o → ad'.g a = some o := fun {a o} e => by
    rw [hg]
    unfold asideOf
    rw [if_neg]
    · exact e
    · rintro ⟨j, u, hu, hul, hua, _⟩
      have := (w.off j u a hu hul hua).2
      rw [e] at this
      cases this
  refine ⟨⟨by rw [putB_len, w.len], fun a q qg => ?_, fun i o a ho hol ha => ?_, fun i o a ho ha => ?_, fun i j o u a ho hol hu hul ha hb' => ?_, fun a o e => ?_⟩, gr⟩
  · refine w'.out a (fun k o ho hol ha => ?_) ?_
    · have hk : k < ids.length := by
        rw [← hl]
        exact (List.getElem?_eq_some_iff.mp ho).1
      obtain ⟨k', o', a', h1, h2, h3, h4, h5, h6⟩ := new (List.getElem_mem hk)
      have ek : k' = k := by
        obtain ⟨lk, ee⟩ := List.getElem?_eq_some_iff.mp h1
        exact (List.getElem_inj nd).mp ee
      rw [ek, ha] at h6
      cases h6
      rw [ek, ho] at h3
      cases h3
      exact q _ o h2 hol h5
    · cases e : ad'.g a with
      | none => rfl
      | some u =>
        exfalso
        rw [hg] at e
        unfold asideOf at e
        split at e
        · rename_i hx
          obtain ⟨i, o, ho, hol, ha, hi⟩ := hx
          exact q i o (by rw [putB_out hi]; exact ho) hol ha
        · rw [qg] at e
          cases e
  · by_cases hi : i ∈ ids
    · obtain ⟨k, o', a', h1, h2, h3, h4, h5, h6⟩ := new hi
      rw [ho] at h2
      cases h2
      rw [ha] at h5
      cases h5
      obtain ⟨e1, e2⟩ := w'.off k o a h3 hol h6
      refine ⟨e1, ?_⟩
      cases e : ad.g a with
      | none => rfl
      | some u =>
        rw [gof e] at e2
        cases e2
    · rw [putB_out hi] at ho
      exact ⟨(old hi ho hol ha).2.1, (w.off i o a ho hol ha).2⟩
  · by_cases hi : i ∈ ids
    · obtain ⟨k, o', a', h1, h2, h3, h4, h5, h6⟩ := new hi
      rw [ho] at h2
      cases h2
      rw [ha] at h5
      cases h5
      exact (w'.obj k o a h3 h6).flat h4
    · rw [putB_out hi] at ho
      cases hol : o.live with
      | true =>
        rw [(old hi ho hol ha).1]
        exact (w.obj i o a ho ha).mono gr
      | false =>
        cases o with
        | dead => trivial
        | _ => cases hol
  · by_cases hi : i ∈ ids
    · obtain ⟨k, o', a', h1, h2, h3, h4, h5, h6⟩ := new hi
      rw [ho] at h2
      cases h2
      rw [ha] at h5
      cases h5
      by_cases hj : j ∈ ids
      · obtain ⟨k2, o2, a2, m1, m2, m3, m4, m5, m6⟩ := new hj
        rw [hu] at m2
        cases m2
        rw [hb'] at m5
        cases m5
        have e := w'.inj k k2 o u a h3 hol m3 hul h6 m6
        rw [e, m1] at h1
        exact (Option.some.inj h1).symm
      · rw [putB_out hj] at hu
        exfalso
        exact (old hj hu hul hb').2.2 (w'.off k o a h3 hol h6).2
    · rw [putB_out hi] at ho
      by_cases hj : j ∈ ids
      · obtain ⟨k2, o2, a2, m1, m2, m3, m4, m5, m6⟩ := new hj
        rw [hu] at m2
        cases m2
        rw [hb'] at m5
        cases m5
        exfalso
        exact (old hi ho hol ha).2.2 (w'.off k2 u a m3 hul m6).2
      · rw [putB_out hj] at hu
        exact w.inj i j o u a ho hol hu hul ha hb'
  · exact w'.prv a o (gof e)
/-- the last owned object is new: it stays as the caller's next -/
theorem Own.snocR {p : Addr} {o : O} (w : Own K F ad os H) (ol : o.flat = true) {u : HO} (r : ObjR K F ad o (some u)) {H0 : Hp} (e : H0 = upd H p u) (hn : H p = none) : Own K F (ad.snoc p) (os ++ [o]) H0 := by
  subst e
  exact w.born hn (O.flat_live ol) (r.flat ol)
end

/-! ### what a def is -/
/-- a def's end: its own objects are left, but what it hands back -/
def trimR (m : Nat) (r : Res Fl) : Res D := match r with
  | .ok (.rt (.p x)) os => if (os.take m).all O.flat = true then .ok (.p x) (os.take m) else .bad
  | .ok (.rt (.own j)) os => if (os.take m).all O.flat = true then (if j < m then .ok (.own j) (os.take m) else match os[j]? with
    | some o => if o.flat = true then .ok (.own m) (os.take m ++ [o]) else .bad
    | none => .bad) else .bad
  | .ok (.nx _) os => if (os.take m).all O.flat = true then .ok (.p .non) (os.take m) else .bad
  | .ex x os => if (os.take m).all O.flat = true then .ex x (os.take m) else .bad
  | _ => .bad
def fnD (n : Nat) (g : MS) (ds : List D) : M D := fun os => trimR os.length (g (ds.map some ++ List.replicate (n - ds.length) none) os)
def spD (K : PySem.W.Frag) (n : Nat) (f : List D → M D) : Sp := fun vs H Q E => ∃ F ad os ds, ds.length = n ∧ Own K F ad os H ∧ RelDs K F ad ds vs ∧ OutE K E F ad Q (f ds os)
section
variable {K : PySem.W.Frag} {F : Hp} {ad : Ads} {os : List O} {H : Hp}
theorem pick_range {os : List O} : ∀ {m k : Nat}, k + m ≤ os.length → ((os.drop k).take m).all O.flat = true → pickO os ((List.range m).map (k + ·)) = some ((os.drop k).take m)
  | 0, k, _, _ => by simp [pickO]
  | m + 1, k, h, hf => by
    have hk : k < os.length := by omega
    rw [List.range_succ_eq_map, List.map_cons, List.map_map]
    rw [List.drop_eq_getElem_cons hk, List.take_succ_cons] at hf ⊢
    rw [List.all_cons, Bool.and_eq_true] at hf
    have ih := pick_range (m := m) (k := k + 1) (by omega) hf.2
    have e : (List.range m).map ((k + ·) ∘ Nat.succ) = (List.range m).map (k + 1 + ·) := List.map_congr_left fun a _ => by show k + (a + 1) = k + 1 + a; omega
    unfold pickO
    rw [Nat.add_zero, List.getElem?_eq_getElem hk]
    dsimp only
    rw [if_pos hf.1, e, ih]
    rfl
/-- a is one of the first m owned objects, or kept aside -/
def FstM (ad : Ads) (os : List O) (m : Nat) (a : Addr) : Prop := (∃ (i : Nat) (o : O), i < m ∧ os[i]? = some o ∧ o.live = true ∧ ad.l[i]? = some a) ∨ ad.g a ≠ none
open Classical in
noncomputable def leftF (ad : Ads) (os : List O) (m : Nat) (H : Hp) : Hp := fun a => if FstM ad os m a then none else H a
theorem leftF_in {m : Nat} {a : Addr} (h : FstM ad os m a) : leftF ad os m H a = none := if_pos h
theorem leftF_out {m : Nat} {a : Addr} (h : ¬ FstM ad os m a) : leftF ad os m H a = H a := if_neg h
theorem leftF_same (w : Own K F ad os H) (m : Nat) : Same F (leftF ad os m H) := fun a o e => by
  have hF : ¬ FstM ad os m a := by
    rintro (⟨i, u, _, hu, hul, ha⟩ | hg)
    · rw [(w.off i u a hu hul ha).1] at e
      cases e
    · cases q : ad.g a with
      | none => exact hg q
      | some u =>
        rw [(w.prv a u q).2] at e
        cases e
  rw [leftF_out hF]
  exact w.same a o e
/-- only the first m objects are looked at any more -/
theorem Own.take (w : Own K F ad os H) {m : Nat} (hf : (os.take m).all O.flat = true) : Own K (leftF ad os m H) ⟨ad.l.take m, ad.g⟩ (os.take m) H := by
  have hat : ∀ {i : Nat} {o : O}, (os.take m)[i]? = some o → i < m ∧ os[i]? = some o := fun {i o} h => by
    have hi : i < m := by
      have := (List.getElem?_eq_some_iff.mp h).1
      rw [List.length_take] at this
      omega
    rw [List.getElem?_take, if_pos hi] at h
    exact ⟨hi, h⟩
  have haa : ∀ {i : Nat} {a : Addr}, (ad.l.take m)[i]? = some a → ad.l[i]? = some a := fun {i a} h => by
    rw [List.getElem?_take] at h
    split at h
    · exact h
    · cases h
  have hab : ∀ {i : Nat} {a : Addr}, i < m → ad.l[i]? = some a → (ad.l.take m)[i]? = some a := fun {i a} hi h => by
    rw [List.getElem?_take, if_pos hi]
    exact h
  refine ⟨by show (ad.l.take m).length = _; rw [List.length_take, List.length_take, w.len], fun a q qg => ?_, fun i o a ho hol ha => ?_, fun i o a ho ha => ?_, fun i j o u a ho hol hu hul ha hb => ?_, fun a o e => ?_⟩
  · refine (leftF_out ?_).symm
    rintro (⟨i, o, hi, ho, hol, ha⟩ | hg)
    · exact q i o (by rw [List.getElem?_take, if_pos hi]; exact ho) hol (hab hi ha)
    · exact hg qg
  · obtain ⟨hi, ho'⟩ := hat ho
    exact ⟨leftF_in (.inl ⟨i, o, hi, ho', hol, haa ha⟩), (w.off i o a ho' hol (haa ha)).2⟩
  · obtain ⟨hi, ho'⟩ := hat ho
    have r1 : ObjR K (leftF ad os m H) ad o (H a) := (w.obj i o a ho' (haa ha)).mono ⟨leftF_same w m, fun _ _ h => h, rfl⟩
    exact r1.flat (List.all_eq_true.mp hf o (List.mem_of_getElem? ho))
  · exact w.inj i j o u a (hat ho).2 hol (hat hu).2 hul (haa ha) (haa hb)
  · obtain ⟨h1, h2⟩ := w.prv a o e
    refine ⟨h1, leftF_in (.inr ?_)⟩
    have e' : ad.g a = some o := e
    rw [e']
    simp
/-- .. and the one at j -/
theorem Own.takeS (w : Own K F ad os H) {m j : Nat} {o : O} (hf : (os.take m).all O.flat = true) (hj : os[j]? = some o) (hm : m ≤ j) (ho : o.flat = true) : ∃ F' a, Same F F' ∧ ad.l[j]? = some a ∧ Own K F' ⟨ad.l.take m ++ [a], ad.g⟩ (os.take m ++ [o]) H := by
  obtain ⟨a, ha, r⟩ := w.at_ hj
  have wt := w.take hf
  have sm := leftF_same w m
  obtain ⟨u, hu⟩ := r.some_of (O.flat_live ho)
  have hmj : m ≤ os.length := by
    have := (List.getElem?_eq_some_iff.mp hj).1
    omega
  -- a is neither of the first ones nor aside
  have hna : ¬ FstM ad os m a := by
    rintro (⟨i, o', hi, ho', hol, ha'⟩ | hg)
    · have e := w.inj i j o' o a ho' hol hj (O.flat_live ho) ha' ha
      omega
    · exact hg (w.off j o a hj (O.flat_live ho) ha).2
  have hl : (ad.l.take m).length = (os.take m).length := wt.len
  -- the still part without a
  refine ⟨fun b => if b = a then none else leftF ad os m H b, a, fun b x e => ?_, ha, ?_⟩
  · have nb : b ≠ a := fun z => by
      rw [z, (w.off j o a hj (O.flat_live ho) ha).1] at e
      cases e
    show (if b = a then none else leftF ad os m H b) = some x
    rw [if_neg nb]
    exact sm b x e
  · have r2 : ObjR K F ad o (H a) := r
    have same2 : Same F (fun b => if b = a then none else leftF ad os m H b) := fun b x e => by
      have nb : b ≠ a := fun z => by
        rw [z, (w.off j o a hj (O.flat_live ho) ha).1] at e
        cases e
      show (if b = a then none else leftF ad os m H b) = some x
      rw [if_neg nb]
      exact sm b x e
    have hat : ∀ {i : Nat} {x : O}, (os.take m)[i]? = some x → i < m ∧ os[i]? = some x := fun {i x} h => by
      have hi : i < m := by
        have := (List.getElem?_eq_some_iff.mp h).1
        rw [List.length_take] at this
        omega
      rw [List.getElem?_take, if_pos hi] at h
      exact ⟨hi, h⟩
    -- each of the objects stands among the old ones
    have orig : ∀ {i : Nat} {x : O} {b : Addr}, (os.take m ++ [o])[i]? = some x → (ad.l.take m ++ [a])[i]? = some b → ∃ i', os[i']? = some x ∧ ad.l[i']? = some b ∧ ((i < m ∧ i' = i) ∨ (i = (os.take m).length ∧ i' = j)) := fun {i x b} hx hb => by
      rcases cut_snoc hx with ⟨hx1, hi⟩ | ⟨hi, hx1⟩
      · rw [List.getElem?_append_left (by rw [hl]; exact hi)] at hb
        obtain ⟨q1, q2⟩ := hat hx1
        rw [List.getElem?_take, if_pos q1] at hb
        exact ⟨i, q2, hb, .inl ⟨q1, rfl⟩⟩
      · rw [hi, ← hl, List.getElem?_concat_length] at hb
        cases hb
        exact ⟨j, by rw [hx1]; exact hj, ha, .inr ⟨hi, rfl⟩⟩
    have hlm : (os.take m).length = m := by rw [List.length_take]; omega
    refine ⟨by show (ad.l.take m ++ [a]).length = _; rw [List.length_append, List.length_append, hl]; rfl, fun b q qg => ?_, fun i x b hx hxl hb => ?_, fun i x b hx hb => ?_, fun i k x y b hx hxl hy hyl hb hc => ?_, fun b x e => ?_⟩
    · have nb : b ≠ a := fun z => q (os.take m).length o (List.getElem?_concat_length) (O.flat_live ho) (by rw [z, ← hl]; exact List.getElem?_concat_length)
      show H b = if b = a then none else leftF ad os m H b
      rw [if_neg nb]
      exact wt.out b (fun i x hx hxl hb => q i x (by rw [List.getElem?_append_left (List.getElem?_eq_some_iff.mp hx).1]; exact hx) hxl (by
        have hb' : (ad.l.take m)[i]? = some b := hb
        show (ad.l.take m ++ [a])[i]? = some b
        rw [List.getElem?_append_left (List.getElem?_eq_some_iff.mp hb').1]
        exact hb')) qg
    · obtain ⟨i', h1, h2, h3⟩ := orig hx hb
      refine ⟨?_, (w.off i' x b h1 hxl h2).2⟩
      show (if b = a then none else leftF ad os m H b) = none
      by_cases z : b = a
      · rw [if_pos z]
      · rw [if_neg z]
        rcases h3 with ⟨hi, rfl⟩ | ⟨hi, rfl⟩
        · exact leftF_in (.inl ⟨i', x, hi, h1, hxl, h2⟩)
        · rw [ha] at h2
          cases h2
          exact absurd rfl z
    · obtain ⟨i', h1, h2, h3⟩ := orig hx hb
      have hxf : x.flat = true := by
        rcases cut_snoc hx with ⟨hx1, hi⟩ | ⟨hi, hx1⟩
        · exact List.all_eq_true.mp hf x (List.mem_of_getElem? hx1)
        · rw [hx1]; exact ho
      exact ((w.obj i' x b h1 h2).mono (ad' := ad) ⟨same2, fun _ _ h => h, rfl⟩).flat hxf
    · obtain ⟨i', h1, h2, h3⟩ := orig hx hb
      obtain ⟨k', k1, k2, k3⟩ := orig hy hc
      have e := w.inj i' k' x y b h1 hxl k1 hyl h2 k2
      omega
    · obtain ⟨h1, h2⟩ := w.prv b x e
      refine ⟨h1, ?_⟩
      show (if b = a then none else leftF ad os m H b) = none
      by_cases z : b = a
      · rw [if_pos z]
      · rw [if_neg z]
        refine leftF_in (.inr ?_)
        have e' : ad.g b = some x := e
        rw [e']
        simp
end

/-! ### defs -/
theorem start_slr {K : PySem.W.Frag} {F : Hp} {ad : Ads} {N : List Str} {ds : List D} {vs : List V} (r : RelDs K F ad ds vs) : SlR K F ad (ds.map some ++ List.replicate (N.length - ds.length) none) (L2.start N vs) := by
  have hl : ds.length = vs.length := Paired.length r
  unfold L2.start
  rw [hl]
  refine ⟨by rw [List.length_append, List.length_append, List.length_map, List.length_map, hl]; simp, fun i d e => ?_⟩
  have hi : i < ds.length := by
    by_cases h : i < ds.length
    · exact h
    · rw [List.getElem?_append_right (by rw [List.length_map]; omega)] at e
      rw [List.getElem?_replicate] at e
      split at e <;> cases e
  rw [List.getElem?_append_left (by rw [List.length_map]; exact hi)] at e
  rw [List.getElem?_append_left (by rw [List.length_map]; omega)]
  have gen : ∀ {ds : List D} {vs : List V} {i : Nat}, RelDs K F ad ds vs → (ds.map some)[i]? = some (some d) → ∃ v, (vs.map some)[i]? = some (some v) ∧ RelD K F ad d v := fun {ds} => by
    induction ds with
    | nil =>
      intro vs i r e
      simp at e
    | cons d' ds ih =>
      intro vs i r e
      cases r with
      | cons h t =>
        cases i with
        | zero =>
          simp at e
          subst e
          exact ⟨_, rfl, h⟩
        | succ i =>
          have e2 : (ds.map some)[i]? = some (some d) := by simpa using e
          obtain ⟨v, h1, h2⟩ := ih t e2
          exact ⟨v, by simpa using h1, h2⟩
  exact gen r e
section
variable {P' : Program} {w : World} {K : PySem.W.Frag} {mg : Str → Option Value} {base : Heap}
/-- a body's end is the def's -/
theorem trim_out {E : XK} {F : Hp} {ad : Ads} {os : List O} {H : Hp} {Q : VK} {r : Res Fl} (w : Own K F ad os H) (q : OutE K E F ad Q (trimR os.length r)) : OutS K E F ad { nx := fun _ H' => Q .non H', rt := Q } r := by
  have pre : ∀ {F' : Hp} {ad' : Ads}, Grow F ad F' ad' → ∀ (i : Nat) (a : Addr), ad.l[i]? = some a → (ad'.l.take os.length)[i]? = some a := fun {F' ad'} g i a h => by
    have hi : i < os.length := by
      rw [← w.len]
      exact (List.getElem?_eq_some_iff.mp h).1
    rw [List.getElem?_take, if_pos hi]
    exact g.pre i a h
  cases r with
  | bad => exact q
  | ex x os1 =>
    unfold trimR at q
    dsimp only at q
    split at q
    · rename_i hf
      intro F1 ad1 H1 cls dd g1 w1 rx
      refine q (leftF ad1 os1 os.length H1) ⟨ad1.l.take os.length, ad1.g⟩ H1 cls dd ⟨g1.same.trans (leftF_same w1 _), pre g1, g1.gs⟩ (w1.take hf) ?_
      obtain ⟨h1, h2⟩ := rx
      refine ⟨h1, ?_⟩
      cases e : x.fs with
      | none => rw [e] at h2; exact h2
      | some fs =>
        rw [e] at h2
        obtain ⟨d, vs, e1, e2, r⟩ := h2
        exact ⟨d, vs, e1, e2, r.mono (leftF_same w1 _)⟩
    · exact q.elim
  | ok fl os1 =>
    cases fl with
    | bk S => exact q.elim
    | ct S => exact q.elim
    | nx S =>
      unfold trimR at q
      dsimp only at q
      split at q
      · rename_i hf
        intro F1 ad1 σ1 H1 g1 sl1 w1
        exact q (leftF ad1 os1 os.length H1) ⟨ad1.l.take os.length, ad1.g⟩ H1 .non ⟨g1.same.trans (leftF_same w1 _), pre g1, g1.gs⟩ (w1.take hf) .non
      · exact q.elim
    | rt d =>
      cases d with
      | p x =>
        unfold trimR at q
        dsimp only at q
        split at q
        · rename_i hf
          intro F1 ad1 v H1 g1 w1 r1
          exact q (leftF ad1 os1 os.length H1) ⟨ad1.l.take os.length, ad1.g⟩ H1 v ⟨g1.same.trans (leftF_same w1 _), pre g1, g1.gs⟩ (w1.take hf) (Rep.mono (leftF_same w1 _) r1)
        · exact q.elim
      | own j =>
        unfold trimR at q
        dsimp only at q
        split at q
        · rename_i hf
          split at q
          · rename_i hj
            intro F1 ad1 v H1 g1 w1 r1
            obtain ⟨a, ha, rfl⟩ := r1
            exact q (leftF ad1 os1 os.length H1) ⟨ad1.l.take os.length, ad1.g⟩ H1 _ ⟨g1.same.trans (leftF_same w1 _), pre g1, g1.gs⟩ (w1.take hf) ⟨a, by show (ad1.l.take os.length)[j]? = some a; rw [List.getElem?_take, if_pos hj]; exact ha, rfl⟩
          · rename_i hj
            cases e : os1[j]? with
            | none => rw [e] at q; exact q.elim
            | some o =>
              rw [e] at q
              dsimp only at q
              split at q
              · rename_i ho
                intro F1 ad1 v H1 g1 w1 r1
                obtain ⟨a, ha, rfl⟩ := r1
                obtain ⟨F2, a', s2, ha', w2⟩ := w1.takeS hf e (by omega) ho
                rw [ha] at ha'
                cases ha'
                have hlen : (ad1.l.take os.length).length = os.length := by
                  have h1 := (List.getElem?_eq_some_iff.mp e).1
                  rw [List.length_take, w1.len]
                  omega
                refine q F2 ⟨ad1.l.take os.length ++ [a], ad1.g⟩ H1 _ ⟨g1.same.trans s2, fun i b hb => ?_, g1.gs⟩ w2 ⟨a, by show (ad1.l.take os.length ++ [a])[os.length]? = some a; rw [← hlen]; simp, rfl⟩
                have hp := pre g1 i b hb
                show (ad1.l.take os.length ++ [a])[i]? = some b
                rw [List.getElem?_append_left (List.getElem?_eq_some_iff.mp hp).1]
                exact hp
              · exact q.elim
        · exact q.elim
/-- THE RULE for a def -/
theorem fn_D {x qual : Str} {params : Arguments} {body : List Stmt} {scope : Scope} {dvs : List V} {kws : List (Str × V)} {f : Addr} {fd : FuncData} {N ps : List Str} {k : Nat} {g : MS} (Fn : FunD K x qual params body scope dvs kws f fd) (Sc : FnScope N ps scope)
    (hb : ∀ (cdv : Value) (A : Around) (outer : List Env) (s : Shared) (H : Hp) (E : XK), Room k (A.deeper (envOfC qual scope s.heap.objs.size f cdv)) →
      DSs (cxOf (L2.CX P' w) P' w K mg base N qual scope f cdv A outer s H E) E body g) : FnOk P' w K mg base (L2.CX P' w) (k + 1) f fd ps (spD K ps.length (fnD N.length g)) := by
  refine Fn.ok Sc (fun vs H Q E h => ?_) (fun cdv A outer s H vs Q E hr h => ?_)
  · obtain ⟨F, ad, os, ds, hl, _, r, _⟩ := h
    rw [← hl]
    exact (Paired.length r).symm
  · obtain ⟨F, ad, os, ds, hl, ow, r, q⟩ := h
    exact ⟨_, hb cdv A outer s H E hr, _, os, F, ad, start_slr r, ow, trim_out ow q⟩
end

/-! ### an object made by a callee -/
section
variable {K : PySem.W.Frag} {F : Hp} {ad : Ads} {os : List O} {H : Hp}
theorem Own.lastHide {r0 : List O} {o : O} {a : Addr} {u : HO} (w : Own K F ad (r0 ++ [o]) H) (ha : ad.l[r0.length]? = some a) (hu : H a = some u) (ol : o.live = true) (hf : r0.all O.flat = true) : Own K F ⟨ad.l.take r0.length, upd ad.g a u⟩ r0 H := by
  have hlast : (r0 ++ [o])[r0.length]? = some o := List.getElem?_concat_length
  obtain ⟨hFa, hga⟩ := w.off _ o a hlast ol ha
  have up : ∀ {i : Nat} {x : O}, r0[i]? = some x → i < r0.length ∧ (r0 ++ [o])[i]? = some x := fun {i x} h => by
    have hi := (List.getElem?_eq_some_iff.mp h).1
    exact ⟨hi, by rw [List.getElem?_append_left hi]; exact h⟩
  have ua : ∀ {i : Nat} {b : Addr}, (ad.l.take r0.length)[i]? = some b → ad.l[i]? = some b := fun {i b} h => by
    rw [List.getElem?_take] at h
    split at h
    · exact h
    · cases h
  have nea : ∀ {i : Nat} {x : O} {b : Addr}, r0[i]? = some x → x.live = true → ad.l[i]? = some b → b ≠ a := fun {i x b} hx hxl hb z => by
    obtain ⟨hi, hx'⟩ := up hx
    have e := w.inj i r0.length x o a hx' hxl hlast ol (z ▸ hb) ha
    omega
  have hlen : ad.l.length = r0.length + 1 := by rw [w.len, List.length_append]; rfl
  refine ⟨by show (ad.l.take r0.length).length = _; rw [List.length_take, hlen]; omega, fun b q qg => ?_, fun i x b hx hxl hb => ?_, fun i x b hx hb => ?_, fun i j x y b hx hxl hy hyl hb hc => ?_, fun b x e => ?_⟩
  · have qg' : upd ad.g a u b = none := qg
    have nb : b ≠ a := fun z => by
      rw [z, upd_same] at qg'
      cases qg'
    rw [upd_ne nb] at qg'
    refine w.out b (fun i x hx hxl hb => ?_) qg'
    rcases cut_snoc hx with ⟨hx1, hi⟩ | ⟨hi, _⟩
    · exact q i x hx1 hxl (by show (ad.l.take r0.length)[i]? = some b; rw [List.getElem?_take, if_pos hi]; exact hb)
    · rw [hi, ha] at hb
      cases hb
      exact nb rfl
  · obtain ⟨hi, hx'⟩ := up hx
    obtain ⟨h1, h2⟩ := w.off i x b hx' hxl (ua hb)
    exact ⟨h1, by show upd ad.g a u b = none; rw [upd_ne (nea hx hxl (ua hb))]; exact h2⟩
  · obtain ⟨hi, hx'⟩ := up hx
    exact (w.obj i x b hx' (ua hb)).flat (List.all_eq_true.mp hf x (List.mem_of_getElem? hx))
  · exact w.inj i j x y b (up hx).2 hxl (up hy).2 hyl (ua hb) (ua hc)
  · have e' : upd ad.g a u b = some x := e
    by_cases z : b = a
    · rw [z] at e' ⊢
      rw [upd_same] at e'
      cases e'
      exact ⟨hu, hFa⟩
    · rw [upd_ne z] at e'
      exact w.prv b x e'
theorem Own.adopt {l : List Addr} {g : Hp} {a : Addr} {u : HO} {o : O} (w : Own K F ⟨l, upd g a u⟩ os H) (hg : g a = none) (ho : o.flat = true) (r : ObjR K F ⟨l, g⟩ o (some u)) : Own K F ⟨l ++ [a], g⟩ (os ++ [o]) H := by
  obtain ⟨hHa, hFa⟩ := w.prv a u (by show upd g a u a = some u; rw [upd_same])
  have nea : ∀ {i : Nat} {x : O} {b : Addr}, os[i]? = some x → x.live = true → l[i]? = some b → b ≠ a := fun {i x b} hx hxl hb z => by
    have h2 : upd g a u b = none := (w.off i x b hx hxl hb).2
    rw [z, upd_same] at h2
    cases h2
  have hl : l.length = os.length := w.len
  have ca : ∀ {i : Nat} {b : Addr}, i < os.length → (l ++ [a])[i]? = some b → l[i]? = some b := fun {i b} hi h => by
    rw [List.getElem?_append_left (by rw [hl]; exact hi)] at h
    exact h
  have cb : ∀ {b : Addr}, (l ++ [a])[os.length]? = some b → b = a := fun {b} h => by
    rw [← hl, List.getElem?_concat_length] at h
    exact (Option.some.inj h).symm
  refine ⟨by show (l ++ [a]).length = _; rw [List.length_append, List.length_append, hl]; rfl, fun b q qg => ?_, fun i x b hx hxl hb => ?_, fun i x b hx hb => ?_, fun i j x y b hx hxl hy hyl hb hc => ?_, fun b x e => ?_⟩
  · have nb : b ≠ a := fun z => q os.length o (List.getElem?_concat_length) (O.flat_live ho) (by rw [z]; show (l ++ [a])[os.length]? = some a; rw [← hl, List.getElem?_concat_length])
    refine w.out b (fun i x hx hxl hb => ?_) (by show upd g a u b = none; rw [upd_ne nb]; exact qg)
    have hi := (List.getElem?_eq_some_iff.mp hx).1
    have hb' : l[i]? = some b := hb
    exact q i x (by rw [List.getElem?_append_left hi]; exact hx) hxl (by show (l ++ [a])[i]? = some b; rw [List.getElem?_append_left (by rw [hl]; exact hi)]; exact hb')
  · rcases cut_snoc hx with ⟨hx1, hi⟩ | ⟨hi, hx1⟩
    · obtain ⟨h1, h2⟩ := w.off i x b hx1 hxl (ca hi hb)
      have h2' : upd g a u b = none := h2
      rw [upd_ne (nea hx1 hxl (ca hi hb))] at h2'
      exact ⟨h1, h2'⟩
    · rw [hi] at hb
      rw [cb hb]
      exact ⟨hFa, hg⟩
  · rcases cut_snoc hx with ⟨hx1, hi⟩ | ⟨hi, hx1⟩
    · exact ((ObjR.rel (l := l) (g := upd g a u) (g' := g) (w.obj i x b hx1 (ca hi hb))).mono (ad := ⟨l, g⟩) (ad' := ⟨l ++ [a], g⟩) ⟨Same.refl F, fun i c h => by
        have h' : l[i]? = some c := h
        show (l ++ [a])[i]? = some c
        rw [List.getElem?_append_left (List.getElem?_eq_some_iff.mp h').1]
        exact h', rfl⟩)
    · rw [hi] at hb
      rw [cb hb, hx1, hHa]
      exact r.flat ho
  · rcases cut_snoc hx with ⟨hx1, hi⟩ | ⟨hi, hx1⟩
    · rcases cut_snoc hy with ⟨hy1, hj⟩ | ⟨hj, hy1⟩
      · exact w.inj i j x y b hx1 hxl hy1 hyl (ca hi hb) (ca hj hc)
      · rw [hj] at hc
        exact absurd (cb hc) (nea hx1 hxl (ca hi hb))
    · rcases cut_snoc hy with ⟨hy1, hj⟩ | ⟨hj, hy1⟩
      · rw [hi] at hb
        exact absurd (cb hb) (nea hy1 hyl (ca hj hc))
      · rw [hi, hj]
  · have e' : g b = some x := e
    have nb : b ≠ a := fun z => by rw [z, hg] at e'; cases e'
    exact w.prv b x (by show upd g a u b = some x; rw [upd_ne nb]; exact e')
theorem Own.unfocus_new (w : Own K F ad os H) {ids : List Nat} {r r' : List O} {o : O} {F' : Hp} {ad' : Ads} {H' : Hp} {a : Addr} (hp : pickO os ids = some r) (nd : ids.Nodup) (g : Grow F ⟨adsOf ad ids, asideOf ad os ids H⟩ F' ad') (w' : Own K F' ad' r' H') (hl : r'.length = ids.length + 1)
    (ho : r'[ids.length]? = some o) (hf : r'.all O.flat = true) (ha : ad'.l[ids.length]? = some a) : Own K F' (ad.snoc a) (putB os ids (r'.take ids.length) ++ [o]) H' ∧ Grow F ad F' (ad.snoc a) := by
  have er : r' = r'.take ids.length ++ [o] := by
    have h2 : r' = r'.take (ids.length + 1) := (List.take_of_length_le (by omega)).symm
    rw [List.take_add_one, ho] at h2
    exact h2
  have hl0 : (r'.take ids.length).length = ids.length := by rw [List.length_take]; omega
  have hf0 : (r'.take ids.length).all O.flat = true := List.all_eq_true.mpr fun x hx => List.all_eq_true.mp hf x (List.mem_of_mem_take hx)
  have hof : o.flat = true := List.all_eq_true.mp hf o (List.mem_of_getElem? ho)
  have hol := O.flat_live hof
  have wf := w.focus hp nd
  obtain ⟨hlr, hat⟩ := pickO_at hp
  obtain ⟨hFa, hga⟩ := w'.off _ o a ho hol ha
  have hga0 : asideOf ad os ids H a = none := by
    have e1 : ad'.g = asideOf ad os ids H := g.gs
    rw [← e1]
    exact hga
  -- a is new to the caller
  have hHa : H a = none := by
    have hF0 : F a = none := by
      cases q : F a with
      | none => rfl
      | some x => rw [g.same a x q] at hFa; cases hFa
    rw [← hF0]
    refine wf.out a (fun k x hx hxl hk => ?_) hga0
    have hk' := g.pre k a hk
    have hkl : k < ids.length := by rw [← hlr]; exact (List.getElem?_eq_some_iff.mp hx).1
    have hk2 : k < r'.length := by omega
    have hr : r'[k]? = some r'[k] := List.getElem?_eq_getElem hk2
    have e := w'.inj k ids.length r'[k] o a hr (O.flat_live (List.all_eq_true.mp hf _ (List.mem_of_getElem? hr))) ho hol hk' ha
    omega
  obtain ⟨u, hu⟩ := (w'.obj _ o a ho ha).some_of hol
  have wh := w.hide (o := u) hHa
  obtain ⟨_, hno, hgn⟩ := w.none_ hHa
  have eas : asideOf ⟨ad.l, upd ad.g a u⟩ os ids (upd H a u) = upd (asideOf ad os ids H) a u := by
    funext b
    by_cases z : b = a
    · subst z
      rw [upd_same]
      refine (asideOf_out ?_).trans (by show upd ad.g b u b = some u; rw [upd_same])
      rintro ⟨i, x, hx, hxl, hb, _⟩
      exact hno i x hx hxl hb
    · rw [upd_ne z]
      by_cases c : ∃ (i : Nat) (o : O), os[i]? = some o ∧ o.live = true ∧ ad.l[i]? = some b ∧ i ∉ ids
      · refine (asideOf_in (ad := ⟨ad.l, upd ad.g a u⟩) (H := upd H a u) c).trans ?_
        rw [upd_ne z]
        exact (asideOf_in (ad := ad) (H := H) c).symm
      · refine (asideOf_out (ad := ⟨ad.l, upd ad.g a u⟩) (H := upd H a u) c).trans ?_
        refine Eq.trans ?_ (asideOf_out (ad := ad) (H := H) c).symm
        show upd ad.g a u b = ad.g b
        rw [upd_ne z]
  have w0 : Own K F' ⟨ad'.l.take ids.length, upd ad'.g a u⟩ (r'.take ids.length) H' := by
    have := Own.lastHide (r0 := r'.take ids.length) (o := o) (a := a) (u := u) (w := by rw [← er]; exact w') (by rw [hl0]; exact ha) hu hol hf0
    rw [hl0] at this
    exact this
  have g0 : Grow F ⟨adsOf ⟨ad.l, upd ad.g a u⟩ ids, asideOf ⟨ad.l, upd ad.g a u⟩ os ids (upd H a u)⟩ F' ⟨ad'.l.take ids.length, upd ad'.g a u⟩ := by
    refine ⟨g.same, fun i b hb => ?_, ?_⟩
    · have hb' : (adsOf ad ids)[i]? = some b := hb
      have hi : i < ids.length := by
        have := (List.getElem?_eq_some_iff.mp hb').1
        unfold adsOf at this
        rw [List.length_map] at this
        exact this
      show (ad'.l.take ids.length)[i]? = some b
      rw [List.getElem?_take, if_pos hi]
      exact g.pre i b hb'
    · show upd ad'.g a u = asideOf ⟨ad.l, upd ad.g a u⟩ os ids (upd H a u)
      rw [eas, show ad'.g = asideOf ad os ids H from g.gs]
  obtain ⟨w2, g2⟩ := wh.unfocus hp nd g0 w0 hl0 hf0
  refine ⟨Own.adopt w2 hgn hof ?_, ⟨g.same, fun i b hb => ?_, rfl⟩⟩
  · rw [← hu]
    exact (w'.obj _ o a ho ha).flat hof
  · show (ad.l ++ [a])[i]? = some b
    rw [List.getElem?_append_left (List.getElem?_eq_some_iff.mp hb).1]
    exact hb
end

/-! ### calls -/
def ownIds : List D → List Nat
  | [] => []
  | .p _ :: ds => ownIds ds
  | .own i :: ds => i :: ownIds ds
def relab : Nat → List D → List D
  | _, [] => []
  | n, .p x :: ds => .p x :: relab n ds
  | n, .own _ :: ds => .own n :: relab (n + 1) ds
def callD (f : List D → M D) (ds : List D) : M D := fun os => match pickO os (ownIds ds) with
  | none => .bad
  | some osc => if decide (ownIds ds).Nodup = true then (match f (relab 0 ds) osc with
    | .ok (.p x) r => if r.length = (ownIds ds).length ∧ r.all O.flat = true then .ok (.p x) (putB os (ownIds ds) r) else .bad
    | .ok (.own j) r => if r.length = (ownIds ds).length + 1 ∧ j = (ownIds ds).length ∧ r.all O.flat = true then (match r[j]? with
      | some o => .ok (.own os.length) (putB os (ownIds ds) (r.take (ownIds ds).length) ++ [o])
      | none => .bad) else .bad
    | .ex x r => if r.length = (ownIds ds).length ∧ r.all O.flat = true then .ex x (putB os (ownIds ds) r) else .bad
    | .bad => .bad) else .bad
section
variable {K : PySem.W.Frag}
theorem relab_rel {F : Hp} {ad : Ads} {ids : List Nat} {ad2 : Ads} (h : ∀ (k i : Nat) (a : Addr), ids[k]? = some i → ad.l[i]? = some a → ad2.l[k]? = some a) : ∀ {ds : List D} {vs : List V} {n : Nat}, RelDs K F ad ds vs → ids.drop n = ownIds ds → RelDs K F ad2 (relab n ds) vs := fun {ds} => by
  induction ds with
  | nil =>
    intro vs n r e
    cases r
    exact .nil
  | cons d ds ih =>
    intro vs n r e
    cases r with
    | cons hd t =>
      cases d with
      | p x => exact .cons hd (ih t e)
      | own i =>
        have e' : ids.drop n = i :: ownIds ds := e
        have hn : ids[n]? = some i := by
          have : (ids.drop n)[0]? = some i := by rw [e']; rfl
          rw [List.getElem?_drop] at this
          simpa using this
        obtain ⟨a, ha, rfl⟩ := hd
        refine .cons ⟨a, h n i a hn ha, rfl⟩ (ih t ?_)
        have : ids.drop (n + 1) = (ids.drop n).drop 1 := by rw [List.drop_drop]
        rw [this, e']
        rfl
theorem call_core {n : Nat} {f : List D → M D} {W : XK} {F : Hp} {ad : Ads} {os : List O} {H : Hp} {vs : List V} {ds : List D} {Q : VK} (w : Own K F ad os H) (r : RelDs K F ad ds vs) (hn : ds.length = n) (q : OutE K W F ad Q (callD f ds os)) : spD K n f vs H Q W := by
  unfold callD at q
  cases e : pickO os (ownIds ds) with
  | none => rw [e] at q; exact q.elim
  | some osc =>
    rw [e] at q
    dsimp only at q
    split at q
    · rename_i hnd
      have nd : (ownIds ds).Nodup := of_decide_eq_true hnd
      have wf := w.focus e nd
      have hlen : (relab 0 ds).length = ds.length := by
        have : ∀ (ds : List D) (n : Nat), (relab n ds).length = ds.length := fun ds => by
          induction ds with
          | nil => intro n; rfl
          | cons d ds ih => intro n; cases d <;> simp [relab, ih]
        exact this ds 0
      obtain ⟨hlr, hat⟩ := pickO_at e
      refine ⟨F, ⟨adsOf ad (ownIds ds), asideOf ad os (ownIds ds) H⟩, osc, relab 0 ds, by rw [hlen]; exact hn, wf, relab_rel (ids := ownIds ds) (fun k i a hk ha => ?_) r rfl, ?_⟩
      · obtain ⟨o, h1, _, _⟩ := hat k i hk
        obtain ⟨a', h2, h3⟩ := adsOf_at w hk h1
        rw [ha] at h3
        cases h3
        exact h2
      · revert q
        cases f (relab 0 ds) osc with
        | bad => exact fun q => q.elim
        | ex x r' =>
          dsimp only
          split
          · rename_i hh
            intro q F1 ad1 H1 cls dd g1 w1 rx
            obtain ⟨w2, g2⟩ := w.unfocus e nd g1 w1 hh.1 hh.2
            exact q F1 ad H1 cls dd g2 w2 rx
          · exact fun q => q.elim
        | ok d r' =>
          cases d with
          | p x =>
            dsimp only
            split
            · rename_i hh
              intro q F1 ad1 H1 v g1 w1 rv
              obtain ⟨w2, g2⟩ := w.unfocus e nd g1 w1 hh.1 hh.2
              exact q F1 ad H1 v g2 w2 rv
            · exact fun q => q.elim
          | own j =>
            dsimp only
            split
            · rename_i hh
              obtain ⟨hh1, hh2, hh3⟩ := hh
              cases ej : r'[j]? with
              | none => exact fun q => q.elim
              | some o =>
                intro q F1 ad1 H1 v g1 w1 rv
                obtain ⟨a, ha, rfl⟩ := rv
                obtain ⟨w2, g2⟩ := w.unfocus_new e nd g1 w1 hh1 (by rw [← hh2]; exact ej) hh3 (by rw [← hh2]; exact ha)
                exact q F1 (ad.snoc a) H1 _ g2 w2 ⟨a, by show (ad.l ++ [a])[os.length]? = some a; rw [← w.len]; simp, rfl⟩
            · exact fun q => q.elim
    · exact q.elim
end
end DL
/-! DLj: calls of defs, small forms. -/
namespace DL
open PySem PySem.Spec
open PyProof.Rows L2

theorem roomU {k : Nat} {A : Around} (hr : Room k A) : A.units + 65 < cLine := by
  have := hr.un
  omega
theorem roomV {k : Nat} {A : Around} (hr : Room k A) : A.units + 64 < cLine := by
  have := hr.un
  omega
theorem room1 {k : Nat} {A : Around} (hr : Room k A) : A.units + 1 < cLine := by
  have := hr.un
  omega
abbrev frzF (f : Sl → M (List P)) : Sl → M D := fun S => frz (f S)
abbrev ownF (f : Sl → M (List P)) : Sl → M D := fun S => ownL (f S)
def bad' {α : Type} : Sl → M α := fun _ _ => .bad
/-- a def's call with n arguments -/
def callN (n : Nat) (f : List D → M D) (ds : List D) : M D := fun os => if ds.length = n then callD f ds os else .bad
section
variable {X : Cx} {W : XK} {e a b c : Expr} {es : List Expr} {fa : Sl → M (List D)} {pos p : Pos} {x : Str} {k : Nat} {f : Addr} {fd : FuncData} {ps : List Str} {g : List D → M D}
/-- what is not reached -/
theorem de_bad : DE X W e bad' := ⟨fun pins s σ H Q I ⟨S, os, F, ad, sl, w, q⟩ => q.elim⟩
theorem dt_bad : DT X W e bad' := ⟨fun pins s σ H Q I ⟨S, os, F, ad, sl, w, q⟩ => q.elim⟩
theorem ds_bad {st : Stmt} : DS X W st bad' := ⟨fun pins s σ H T I ⟨S, os, F, ad, sl, w, q⟩ => q.elim⟩
theorem dss_bad {st : List Stmt} : DSs X W st bad' := ⟨fun pins s σ H T I ⟨S, os, F, ad, sl, w, q⟩ => q.elim⟩
theorem de_call (Fn : FnOk X.prog X.w X.K X.mg X.base (L2.CX X.prog X.w) k f fd ps (spD X.K ps.length g)) (hr : Room k X.A) (hg : Gl X x) (hm : X.mg x = some (.ref f)) (hk : PySem.W.keepIn X.K (.ref f) = true) (hb : Binds X.K fd ps []) (tk : Takes X (fun cls d _ H => W cls d H))
    (ha : DA X W (e :: es) fa) (hdb : (x == ("__debug__" : Str)) = false := by decide) (he : starEach (e :: es) X.env = (false, eval e X.env) :: starEach es X.env := by rfl) (hpl : (backTo pos (starEach es X.env)).any (·.1) = false := by rfl) :
    DE X W (.Call (.Name x p) (e :: es) [] pos) (opN (callN ps.length g) fa) :=
  pe_imp (pe_callS (E := WE fun cls d _ H => W cls d H) Fn hr hg hm hk hb (fun σ => passAt tk σ) ha hdb he hpl) fun σ H Q ⟨S, os, F, ad, sl, w, q⟩ => by
    refine ⟨S, os, F, ad, sl, w, ?_⟩
    unfold opN at q
    revert q
    cases fa S os with
    | bad => exact fun q => q
    | ex x os1 => exact fun q => q
    | ok ds os1 =>
      intro q F1 ad1 H1 vs g1 w1 r1
      have q2 : OutE X.K W F ad Q (if ds.length = ps.length then callD g ds os1 else .bad) := q
      split at q2
      · rename_i hn
        exact call_core (W := fun cls d H => W cls d H) w1 r1 hn (OutE.grow g1 q2)
      · exact q2.elim
/-- f() -/
theorem de_call0 (Fn : FnOk X.prog X.w X.K X.mg X.base (L2.CX X.prog X.w) k f fd ps (spD X.K ps.length g)) (hr : Room k X.A) (hg : Gl X x) (hm : X.mg x = some (.ref f)) (hk : PySem.W.keepIn X.K (.ref f) = true) (hb : Binds X.K fd ps []) (tk : Takes X (fun cls d _ H => W cls d H))
    (hdb : (x == ("__debug__" : Str)) = false := by decide) :
    DE X W (.Call (.Name x p) [] [] pos) (opN (callN ps.length g) nilA) :=
  pe_imp (pe_call0 (E := fun cls d H => W cls d H) Fn hr hg hm hk hb .nil (passes_call tk fun _ _ _ _ h => h) hdb) fun σ H Q ⟨S, os, F, ad, sl, w, q⟩ => by
    have q2 : OutE X.K W F ad Q (if ([] : List D).length = ps.length then callD g [] os else .bad) := q
    split at q2
    · rename_i hn
      exact call_core (W := fun cls d H => W cls d H) w .nil hn q2
    · exact q2.elim
/-- no fuel left -/
theorem fn_bad {P' : Program} {w : World} {K : PySem.W.Frag} {mg : Str → Option Value} {base : Heap} {CX : CXT} {k : Nat} {f : Addr} {fd : FuncData} {ps : List Str} : FnOk P' w K mg base CX k f fd ps (spD K ps.length fun _ => M.bad) :=
  ⟨fun vs H Q E ⟨F, ad, os, ds, _, _, _, q⟩ => q.elim, fun A outer s H args us vs Q E hr he hb hv ⟨F, ad, os, ds, _, _, _, q⟩ => q.elim⟩

/-! ### a < b < c -/
def chn (g g' : D → D → M D) (fa fb fc : Sl → M D) : Sl → M D := fun S os => (fa S os).bind fun d os => (fb S os).bind fun e os => (g d e os).bind fun z os => match z with
  | .p (.bl true) => (fc S os).bind fun h => g' e h
  | .p (.bl false) => .ok (.p (.bl false)) os
  | _ => .bad
theorem t_chn {r r' : R2} {g g' : D → D → M D} {fa fb fc : Sl → M D} (hd : Op2 X.K r g) (hd' : Op2 X.K r' g') {σ : L2.St} {H : Hp} {Q : VK} (h : TD X.K W (chn g g' fa fb fc) σ H Q) : tChain r r' (TD X.K W fa) (TD X.K W fb) (TD X.K W fc) σ H Q := by
  obtain ⟨S, os, F, ad, sl, w, q⟩ := h
  refine td_bind sl w ?_
  unfold chn at q
  revert q
  cases fa S os with
  | bad => exact fun q => q
  | ex x os1 => exact fun q => q
  | ok d os1 =>
    intro q F1 ad1 H1 v g1 w1 r1
    refine td_bind (sl.mono g1) w1 ?_
    revert q
    show OutE X.K W F ad Q ((fb S os1).bind fun e os => (g d e os).bind fun z os => match z with
      | .p (.bl true) => (fc S os).bind fun h => g' e h
      | .p (.bl false) => .ok (.p (.bl false)) os
      | _ => .bad) → _
    cases fb S os1 with
    | bad => exact fun q => q
    | ex x os2 => exact fun q => OutE.grow (r := .ex x os2) g1 q
    | ok e os2 =>
      intro q F2 ad2 H2 u g2 w2 r2
      refine hd W F2 ad2 os2 H2 v u d e _ w2 (r1.mono g2) r2 ?_
      have q' := OutE.grow (g1.trans g2) q
      revert q'
      show OutE X.K W F2 ad2 Q ((g d e os2).bind fun z os => match z with
        | .p (.bl true) => (fc S os).bind fun h => g' e h
        | .p (.bl false) => .ok (.p (.bl false)) os
        | _ => .bad) → _
      cases g d e os2 with
      | bad => exact fun q => q
      | ex x os3 => exact fun q => q
      | ok z os3 =>
        intro q F3 ad3 H3 t g3 w3 r3
        cases z with
        | own i => exact q.elim
        | p z =>
          cases r3 with
          | bl b =>
            refine ⟨b, rfl, ?_⟩
            cases b with
            | false => exact iteF (q F3 ad3 H3 _ g3 w3 (.bl false))
            | true =>
              refine iteT (td_bind (sl.mono ((g1.trans g2).trans g3)) w3 ?_)
              revert q
              show OutE X.K W F2 ad2 Q ((fc S os3).bind fun h => g' e h) → _
              cases fc S os3 with
              | bad => exact fun q => q
              | ex x os4 => exact fun q => OutE.grow (r := .ex x os4) g3 q
              | ok h os4 => exact fun q F4 ad4 H4 y g4 w4 r4 => hd' W F4 ad4 os4 H4 u y e h Q w4 ((r2.mono g3).mono g4) r4 (OutE.grow (g3.trans g4) q)
          | _ => exact q.elim
theorem de_chain {op op' : CmpOp} {r r' : R2} {g g' : D → D → M D} {fa fb fc : Sl → M D} (ho : OpR X (compareOp op) r) (hd : Op2 X.K r g) (ho' : OpR X (compareOp op') r') (hd' : Op2 X.K r' g') (ha : DE X W a fa) (hb : DE X W b fb) (hc : DE X W c fc)
    (hm : lastMarks [op, op'] [b, c] = false := by with_unfolding_all rfl) : DE X W (.Compare a [op, op'] [b, c] pos) (chn g g' fa fb fc) := pe_imp (pe_chain ho ho' ha hb hc hm) fun σ H Q => t_chn hd hd'
theorem dt_chain {op op' : CmpOp} {r r' : R2} {g g' : D → D → M D} {fa fb fc : Sl → M D} (ho : OpR X (compareOp op) r) (hd : Op2 X.K r g) (ho' : OpR X (compareOp op') r') (hd' : Op2 X.K r' g') (ha : DE X W a fa) (hb : DE X W b fb) (hc : DE X W c fc)
    (hm : lastMarks [op, op'] [b, c] = false := by with_unfolding_all rfl) : DT X W (.Compare a [op, op'] [b, c] pos) (tst (chn g g' fa fb fc)) := pt_imp (pt_chain ho ho' ha hb hc hm) fun σ H Q h => t_chn hd hd' (t_tst h)

/-! ### {} -/
def newK : Sl → M D := fun _ os => .ok (.own os.length) (os ++ [.dK []])
def newT : Sl → M D := fun _ os => .ok (.own os.length) (os ++ [.dT []])
theorem de_newK : DE X W (.Dict [] [] pos) newK := pe_imp pe_dnewK fun σ H Q ⟨S, os, F, ad, sl, w, q⟩ p np =>
  q F (ad.snoc p) _ _ grow_own (w.born np rfl ⟨[], rfl, .nil⟩) ⟨p, by show (ad.l ++ [p])[os.length]? = some p; rw [← w.len, List.getElem?_concat_length], rfl⟩
theorem de_newT : DE X W (.Dict [] [] pos) newT := pe_imp pe_dnewT fun σ H Q ⟨S, os, F, ad, sl, w, q⟩ p np =>
  q F (ad.snoc p) _ _ grow_own (w.born np rfl ⟨[], rfl, .nil⟩) ⟨p, by show (ad.l ++ [p])[os.length]? = some p; rw [← w.len, List.getElem?_concat_length], rfl⟩

/-! ### an owned object becomes still: without a word of the program's -/
def plainF : List (Str × D) → Option (List (Str × P))
  | [] => some []
  | (k, .p x) :: r => (plainF r).map ((k, x) :: ·)
  | _ => none
def still : O → Option P
  | .lst xs => some (.lst xs)
  | .dK kvs => some (.dK kvs)
  | .dT kvs => some (.dT kvs)
  | .ins C fs => (plainF fs).map (P.ins C)
  | .dead => none
def gst (i : Nat) : MS := fun S os => match S[i]? with
  | some (some (.own j)) => (match os[j]? with
    | some o => (match still o with
      | some x => .ok (.nx (S.set i (some (.p x)))) (os.set j .dead)
      | none => .bad)
    | none => .bad)
  | _ => .ok (.nx S) os
theorem plainF_rel {K : PySem.W.Frag} {F : Hp} {ad : Ads} {fs : List (Str × D)} {vs : List (Str × V)} {ps : List (Str × P)} (r : RelF K F ad fs vs) (e : plainF fs = some ps) : RepKV K F ps vs := by
  induction r generalizing ps with
  | nil => cases e; exact .nil
  | @cons k d v ds vs hd _ ih =>
    cases d with
    | own i => cases e
    | p x =>
      cases h : plainF ds with
      | none => simp [plainF, h] at e
      | some qs =>
        simp [plainF, h] at e
        subst e
        exact .cons hd (ih h)
theorem still_rep {K : PySem.W.Frag} {F : Hp} {ad : Ads} {o : O} {h : Option HO} {x : P} (r : ObjR K F ad o h) (e : still o = some x) : ∃ u, h = some u ∧ ∀ F' a, Same F F' → F' a = some u → Rep K F' x (.ref a) := by
  cases o with
  | lst xs =>
    cases e
    obtain ⟨vs, h1, r⟩ := r
    exact ⟨_, h1, fun F' a s ha => .lst ha (r.mono s)⟩
  | dK xs =>
    cases e
    obtain ⟨vs, h1, r⟩ := r
    exact ⟨_, h1, fun F' a s ha => .dK (.inl ha) (r.mono s)⟩
  | dT xs =>
    cases e
    obtain ⟨vs, h1, r⟩ := r
    exact ⟨_, h1, fun F' a s ha => .dT (.inl ha) (r.mono s)⟩
  | ins C fs =>
    obtain ⟨dx, vs, h1, r⟩ := r
    cases q : plainF fs with
    | none => simp [still, q] at e
    | some ps =>
      simp [still, q] at e
      subst e
      exact ⟨_, h1, fun F' a s ha => .ins ha ((plainF_rel r q).mono s)⟩
  | dead => cases e
theorem dss_gst {i : Nat} {sts : List Stmt} {f : MS} (h : DSs X W sts f) : DSs X W sts (sq (gst i) f) := pss_imp h fun T σ H ⟨S, os, F, ad, sl, w, q⟩ => by
  have same : OutS X.K W F ad T (f S os) → TDS X.K W f T σ H := fun q => ⟨S, os, F, ad, sl, w, q⟩
  unfold sq gst at q
  cases e : S[i]? with
  | none => rw [e] at q; exact same q
  | some d =>
    cases d with
    | none => rw [e] at q; exact same q
    | some d =>
      cases d with
      | p x => rw [e] at q; exact same q
      | own j =>
        rw [e] at q
        dsimp only at q
        cases e2 : os[j]? with
        | none => rw [e2] at q; exact q.elim
        | some o =>
          rw [e2] at q
          dsimp only at q
          cases e3 : still o with
          | none => rw [e3] at q; exact q.elim
          | some x =>
            rw [e3] at q
            obtain ⟨a, ha, r⟩ := w.at_ e2
            obtain ⟨u, hu, rep⟩ := still_rep r e3
            have hol : o.live = true := by
              cases o with
              | dead => cases e3
              | _ => rfl
            have w2 := w.freeze e2 hol ha hu
            have g2 : Grow F ad (upd F a u) ad := grow_new (w.off j o a e2 hol ha).1
            refine ⟨S.set i (some (.p x)), os.set j .dead, upd F a u, ad, ?_, w2, OutS.grow g2 q⟩
            obtain ⟨v, hv, a', ha', rfl⟩ := sl.at_ i _ e
            rw [ha] at ha'
            cases ha'
            have sl2 := sl.mono g2
            have hx : RelD X.K (upd F a u) ad (.p x) (.ref a) := rep _ a g2.same upd_same
            have := sl2.set (i := i) hx
            have es : σ.set i (some (.ref a)) = σ := by
              refine List.ext_getElem? fun m => ?_
              by_cases hm : m = i
              · subst hm
                rw [List.getElem?_set_self (List.getElem?_eq_some_iff.mp hv).1, hv]
              · rw [List.getElem?_set_ne (Ne.symm hm)]
            rw [es] at this
            exact this

/-! ### x += e -/
theorem ds_aug {i : Nat} {op : Operator} {ti : TIp} {h : D → D → M D} {fe : Sl → M D} {pos' : Pos} (hN : X.N.Nodup) (hi : X.N[i]? = some x) (hx : Loc X.env.scope x) (he : DE X W e fe) (hp : PIp X op ti)
    (hd : ∀ (W : XK) (F : Hp) (ad : Ads) (os : List O) (H : Hp) (v u : V) (d z : D) (Q : VK), Own X.K F ad os H → RelD X.K F ad d v → RelD X.K F ad z u → OutE X.K W F ad Q (h d z os) → ti v u H Q) (hd1 : (x == ("__debug__" : Str)) = false := by decide) (hcd : (x == ("__classdict__" : Str)) = false := by decide)
    (hf : X.fn x = true ∨ X.env.scope.names.lookup x = some .local := by first | exact .inl rfl | exact .inr rfl | assumption) : DS X W (.AugAssign (.Name x pos') op e pos) (aug i h fe) := by
  refine ps_imp (ps_aug hN hi hx he hp) fun T σ H ⟨S, os, F, ad, sl, w, q⟩ => ?_
  unfold aug at q
  cases ee : S[i]? with
  | none => rw [ee] at q; exact q.elim
  | some d =>
    cases d with
    | none => rw [ee] at q; exact q.elim
    | some d =>
      rw [ee] at q
      dsimp only at q
      obtain ⟨v, hv, rv⟩ := sl.at_ i d ee
      refine ⟨v, hv, td_bind sl w ?_⟩
      revert q
      cases fe S os with
      | bad => exact fun q => q
      | ex x os1 => exact fun q => q
      | ok z os1 =>
        intro q F1 ad1 H1 u g1 w1 r1
        refine hd W F1 ad1 os1 H1 v u d z _ w1 (rv.mono g1) r1 ?_
        have q' := OutS.grow g1 q
        revert q'
        show OutS X.K W F1 ad1 T ((h d z os1).bind fun z os => .ok (.nx (S.set i (some z))) os) → _
        cases h d z os1 with
        | bad => exact fun q => q
        | ex x os2 => exact fun q => q
        | ok y os2 => exact fun q F2 ad2 H2 t g2 w2 r2 => q F2 ad2 _ H2 g2 (((sl.mono g1).mono g2).set r2) w2
def addI (d e : D) : M D := fun os => match d, e with
  | .p (.int i), .p (.int j) => .ok (.p (.int (i + j))) os
  | _, _ => .bad
theorem a_add {K : PySem.W.Frag} : ∀ (W : XK) (F : Hp) (ad : Ads) (os : List O) (H : Hp) (v u : V) (d z : D) (Q : VK), Own K F ad os H → RelD K F ad d v → RelD K F ad z u → OutE K W F ad Q (addI d z os) → ipI (fun i j => i + j) v u H Q := by
  intro W F ad os H x y d e Q w r1 r2 q
  cases d with
  | own i => exact q.elim
  | p a =>
    cases e with
    | own i => cases a <;> exact q.elim
    | p b =>
      cases r1 with
      | int i =>
        cases r2 with
        | int j => exact ⟨i, j, rfl, rfl, q.now w (.int _)⟩
        | _ => exact q.elim
      | _ => exact q.elim
/-! ### what is walked: a list, a tuple, of whatever kind -/
def itsA (d : D) : M (List P) := fun os => match d with
  | .p (.lst xs) => .ok xs os
  | .p (.tup xs) => .ok xs os
  | .p (.ctup xs) => .ok xs os
  | .p (.scr ns) => .ok (ns.map P.int) os
  | .p (.str z) => .ok (z.cps.toList.map fun c => P.str ⟨#[c]⟩) os
  | _ => .bad
theorem wk_str {K : PySem.W.Frag} {F : Hp} {z : Str} : Wk K F (z.cps.toList.map fun c => P.str ⟨#[c]⟩) (Its z) := fun F' ad' os' H' s w i => by
  refine ⟨fun e => ?_, fun p hp => ?_⟩
  · rw [List.length_map, Array.length_toList] at e
    show z.cps.size ≤ i
    omega
  · rw [List.getElem?_map, Option.map_eq_some_iff] at hp
    obtain ⟨c, hc, rfl⟩ := hp
    have hc' : z.cps[i]? = some c := by rw [← hc]; simp
    refine ⟨(Array.getElem?_eq_some_iff.mp hc').1, fun x H'' hy => ?_⟩
    obtain ⟨e, c2, h2, rfl⟩ := hy
    subst e
    rw [hc'] at h2
    cases h2
    exact ⟨F', Grow.refl, w, .str _⟩
theorem wk_seqL {K : PySem.W.Frag} {F : Hp} {a : Addr} {ps : List P} {vs : List V} (h : SqL K F a vs) (r : RepL K F ps vs) : Wk K F ps (Itl K a) := fun F' ad' os' H' s w i => by
  have hs : SqL K H' a vs := (s.trans w.same).seq h
  refine ⟨fun e => ⟨vs, hs, by rw [r.length]; omega⟩, fun p hp => ?_⟩
  obtain ⟨v, hv, rv⟩ := r.get hp
  refine ⟨⟨vs, v, hs, hv⟩, fun x H'' hy => ?_⟩
  obtain ⟨e, hy⟩ := hy
  subst e
  have ev := hy vs hs
  rw [hv] at ev
  cases ev
  exact ⟨F', Grow.refl, w, rv.mono s⟩
theorem wk_seqT {K : PySem.W.Frag} {F : Hp} {a : Addr} {ps : List P} {vs : List V} (h : ∀ H, Same F H → SqT K H a vs) (r : RepL K F ps vs) : Wk K F ps (Itt K a) := fun F' ad' os' H' s w i => by
  have hs : SqT K H' a vs := h _ (s.trans w.same)
  refine ⟨fun e => ⟨vs, hs, by rw [r.length]; omega⟩, fun p hp => ?_⟩
  obtain ⟨v, hv, rv⟩ := r.get hp
  refine ⟨⟨vs, v, hs, hv⟩, fun x H'' hy => ?_⟩
  obtain ⟨e, hy⟩ := hy
  subst e
  have ev := hy vs hs
  rw [hv] at ev
  cases ev
  exact ⟨F', Grow.refl, w, rv.mono s⟩
theorem di_any {tg l : Expr} {f : Sl → M D} (h : DE X W l f) : DI X W tg l (op1 itsA f) := pi_imp (pi_or (pi_or (pi_list h) (pi_tup h)) (pi_str h)) fun σ H R ⟨S, os, F, ad, sl, w, q⟩ => by
  unfold op1 at q
  cases ef : f S os with
  | bad => rw [ef] at q; exact q.elim
  | ex x os1 =>
    rw [ef] at q
    refine .inl (.inl (td_bind sl w ?_))
    rw [ef]
    exact q
  | ok d os1 =>
    rw [ef] at q
    have q2 : OutI X.K W F ad R (itsA d os1) := q
    cases d with
    | own i => exact q2.elim
    | p x =>
      cases x with
      | lst xs =>
        refine .inl (.inl (td_bind sl w ?_))
        rw [ef]
        intro F1 ad1 H1 v g1 w1 r1
        cases r1 with
        | lst hh r => exact ⟨_, rfl, ⟨_, .of (w1.same _ _ hh)⟩, q2 F1 ad1 H1 _ g1 w1 (wk_list hh r)⟩
      | tup xs =>
        refine .inl (.inr (td_bind sl w ?_))
        rw [ef]
        intro F1 ad1 H1 v g1 w1 r1
        cases r1 with
        | tup hh r => exact ⟨_, rfl, ⟨_, .of (w1.same _ _ hh)⟩, q2 F1 ad1 H1 _ g1 w1 (wk_tup hh r)⟩
      | ctup xs =>
        refine .inl (.inr (td_bind sl w ?_))
        rw [ef]
        intro F1 ad1 H1 v g1 w1 r1
        cases r1 with
        | ctup hh r => exact ⟨_, rfl, ⟨_, hh H1⟩, q2 F1 ad1 H1 _ g1 w1 (wk_seqT (fun H _ => hh H) r)⟩
      | scr ns =>
        refine .inl (.inl (td_bind sl w ?_))
        rw [ef]
        intro F1 ad1 H1 v g1 w1 r1
        cases r1 with
        | scr hh => exact ⟨_, rfl, ⟨_, w1.same.seq hh⟩, q2 F1 ad1 H1 _ g1 w1 (wk_seqL hh (rep_ints _))⟩
      | str z =>
        refine .inr (td_bind sl w ?_)
        rw [ef]
        intro F1 ad1 H1 v g1 w1 r1
        cases r1 with
        | str z => exact ⟨z, rfl, q2 F1 ad1 H1 _ g1 w1 wk_str⟩
      | _ => exact q2.elim
end
end DL
/-! DLk: max(.., default=..), module constants, defs by name. -/
namespace PySem
open Sem (wp)
open PyProof.Rows
theorem argsMaxD (x d : Value) : argsOk "max" ⟨[x], [(Str.ofString "default", d)]⟩ := by unfold argsOk; kernel_rfl
theorem bindMaxD (d : Value) : Builtin.Builtins.bindParams "max" ["key", "default"] 0 ⟨[], [(Str.ofString "default", d)]⟩ = pure [none, some d] := by kernel_rfl
section
variable {prog : Program} {w : World} {A : Around} {R : Result → Shared → Prop} {it : Addr} {seen own : List Addr} {m : Nat} {IsV : Nat → Value → Prop} {At : Nat → Heap → Prop} {kw : List (Str × Value)}
theorem maxLoopK (Wk : Walks prog w A.in1 it seen own m IsV At) (gt : Nat → Nat → Bool) (hgt : CmpOf prog w A.in1 .Gt IsV gt) (B : Addr) (nB : B ∉ seen) :
    ∀ (left j : Nat) (sh : Shared) (best : Value) (cc : Nat), m - (j + 1) = left → j + 1 ≤ m → At (j + 1) sh.heap → IsV (argBest gt j) best → sh.heap.get? B = some { cls := .type "list", dict := none, data := .seq #[best, best] cc, slots := #[] } →
    (∀ v hp tk, IsV (argBest gt (m - 1)) v → (∀ b o, b ∉ own → b ≠ B → sh.heap.get? b = some o → hp.get? b = some o) → R (.ok (.ret v)) { sh with heap := hp, toks := tk }) → codeAny (model prog w) A (.builtin "max.loop" ⟨[.ref it, .none, .ref B], kw⟩) R sh := by
  have nO : B ∉ own := fun z => nB (Wk.sub _ z)
  have hnm : (toString "max" ++ toString ".loop" : String) = "max.loop" := by decide
  intro left
  induction left with
  | zero =>
    intro j sh best cc e1 e2 at0 isb atB hR
    have em : j + 1 = m := by omega
    refine codeAny_builtin (args := ⟨[.ref it, .none, .ref B], kw⟩) F.entry_max_loop ?_
    rw [show A.under (.builtin "max.loop" ⟨[.ref it, .none, .ref B], kw⟩) = A.in1 from Around.under_plainId F.plain_max_loop _]
    show wpAny (model prog w) A.in1 (seqItems? (.ref B) >>= _) _ _ sh
    refine wpAny_bind (wpAny_seqItems atB rfl (show wpAny (model prog w) A.in1 (tryCatch (pyNext (.ref it)) _ >>= _) _ _ sh from ?_))
    refine wpAny_bind (wpAny_tryCatch (Wk.done sh _ _ (em ▸ at0) fun hp tk keep => ?_))
    have atB2 := keep B _ nO atB
    show wpAny (model prog w) A.in1 (updateSeq B (fun _ => #[]) >>= _) _ _ _
    refine wpAny_bind (wpAny_updateSeq atB2 rfl (wpAny_bind (wpAny_letGo (wpAny_pure ?_))))
    exact hR best _ tk (by rw [← em]; exact isb) fun b o b1 b2 e => (Heap.get?_update_other _ _ (Ne.symm b2)).trans (keep b o b1 e)
  | succ left ih =>
    intro j sh best cc e1 e2 at0 isb atB hR
    have lt : j + 1 < m := by omega
    refine codeAny_builtin (args := ⟨[.ref it, .none, .ref B], kw⟩) F.entry_max_loop ?_
    rw [show A.under (.builtin "max.loop" ⟨[.ref it, .none, .ref B], kw⟩) = A.in1 from Around.under_plainId F.plain_max_loop _]
    show wpAny (model prog w) A.in1 (seqItems? (.ref B) >>= _) _ _ sh
    refine wpAny_bind (wpAny_seqItems atB rfl (show wpAny (model prog w) A.in1 (tryCatch (pyNext (.ref it)) _ >>= _) _ _ sh from ?_))
    refine wpAny_bind (wpAny_tryCatch (Wk.item (j + 1) sh _ _ lt at0 fun v hp tk isv at1 keep => ?_))
    have atB2 := keep B _ nO atB
    show wpAny (model prog w) A.in1 (tryCatch (holding [v, v] (richCompare .Gt v best >>= _)) _ >>= _) _ _ _
    refine wpAny_bind (wpAny_tryCatch (wpAny_holding (wpAny_bind (hgt (j + 1) (argBest gt j) v best _ _ _ isv isb ?_))))
    refine wpAny_bind (wpAny_holding (wpAny_truthy_bool (wpAny_bind (wpAny_letGo (wpAny_pure ?_)))))
    cases hg : gt (j + 1) (argBest gt j) with
    | true =>
      simp only [if_true]
      refine wpAny_bind (wpAny_updateSeq atB2 rfl (wpAny_bind (wpAny_letGo ?_)))
      rw [hnm]
      refine wpAny_pure ⟨plainId_quiet F.plain_max_loop _, ih (j + 1) _ v _ (by omega) lt (Wk.frame _ _ _ at1 fun b hb o e => (Heap.get?_update_other _ _ (fun z : B = b => nB (by rw [z]; exact hb))).trans e) (by simp only [argBest, hg, if_true]; exact isv) (Heap.get?_update_self _ atB2 rfl) fun u hp2 tk2 isu keep2 => ?_⟩
      exact hR u hp2 tk2 isu fun b o b1 b2 e => keep2 b o b1 b2 ((Heap.get?_update_other _ _ (Ne.symm b2)).trans (keep b o b1 e))
    | false =>
      simp only [Bool.false_eq_true, if_false]
      refine wpAny_bind (wpAny_letGo ?_)
      rw [hnm]
      refine wpAny_pure ⟨plainId_quiet F.plain_max_loop _, ih (j + 1) _ best cc (by omega) lt at1 (by simp only [argBest, hg, Bool.false_eq_true, if_false]; exact isb) atB2 fun u hp2 tk2 isu keep2 => ?_⟩
      exact hR u hp2 tk2 isu fun b o b1 b2 e => keep2 b o b1 b2 (keep b o b1 e)
theorem maxFirstK (Wk : Walks prog w A.in1 it seen own m IsV At) (gt : Nat → Nat → Bool) (hgt : CmpOf prog w A.in1 .Gt IsV gt) (B : Addr) (nB : B ∉ seen) (d : Value) {sh : Shared} {cc : Nat} (at0 : At 0 sh.heap)
    (atB : sh.heap.get? B = some { cls := .type "list", dict := none, data := .seq #[] cc, slots := #[] })
    (hR : ∀ v hp tk, (if m = 0 then v = d else IsV (argBest gt (m - 1)) v) → (∀ b o, b ∉ own → b ≠ B → sh.heap.get? b = some o → hp.get? b = some o) → R (.ok (.ret v)) { sh with heap := hp, toks := tk }) : codeAny (model prog w) A (.builtin "max.loop" ⟨[.ref it, .none, .ref B], [(Str.ofString "default", d)]⟩) R sh := by
  have nO : B ∉ own := fun z => nB (Wk.sub _ z)
  have hnm : (toString "max" ++ toString ".loop" : String) = "max.loop" := by decide
  refine codeAny_builtin (args := ⟨[.ref it, .none, .ref B], [(Str.ofString "default", d)]⟩) F.entry_max_loop ?_
  rw [show A.under (.builtin "max.loop" ⟨[.ref it, .none, .ref B], [(Str.ofString "default", d)]⟩) = A.in1 from Around.under_plainId F.plain_max_loop _]
  show wpAny (model prog w) A.in1 (seqItems? (.ref B) >>= _) _ _ sh
  refine wpAny_bind (wpAny_seqItems atB rfl (show wpAny (model prog w) A.in1 (tryCatch (pyNext (.ref it)) _ >>= _) _ _ sh from ?_))
  rcases Nat.eq_zero_or_pos m with hm | hm
  · refine wpAny_bind (wpAny_tryCatch (Wk.done sh _ _ (hm.symm ▸ at0) fun hp tk keep => ?_))
    refine wpAny_bind (wpAny_rule (wpAny_pure ?_))
    exact hR d hp tk (by rw [if_pos hm]) fun b o b1 b2 e => keep b o b1 e
  · refine wpAny_bind (wpAny_tryCatch (Wk.item 0 sh _ _ hm at0 fun v hp tk isv at1 keep => ?_))
    have atB2 := keep B _ nO atB
    show wpAny (model prog w) A.in1 (updateSeq B (fun _ => #[v, v]) >>= _) _ _ _
    refine wpAny_bind (wpAny_updateSeq atB2 rfl ?_)
    rw [hnm]
    refine wpAny_pure ⟨plainId_quiet F.plain_max_loop _, maxLoopK Wk gt hgt B nB _ 0 _ v _ rfl hm (Wk.frame _ _ _ at1 fun b hb o e => (Heap.get?_update_other _ _ (fun z : B = b => nB (by rw [z]; exact hb))).trans e) isv (Heap.get?_update_self _ atB2 rfl) fun u hp2 tk2 isu keep2 => ?_⟩
    exact hR u hp2 tk2 (by rw [if_neg (by omega)]; exact isu) fun b o b1 b2 e => keep2 b o b1 b2 ((Heap.get?_update_other _ _ (Ne.symm b2)).trans (keep b o b1 e))
end
section
variable {prog : Program} {w : World} {A : Around} {E : Value → Shared → Prop} {s : Shared} {l : Addr} {its : List Value} {ns : List Int}
theorem callMaxK {x d : Value} {Q : Value → Shared → Prop}
    (h : wpAny (model prog w) A.in1 (pyIter x) (fun iv s2 => ∃ it seen own m IsV At gt, iv = .ref it ∧ Walks prog w A.in1 it seen own m IsV At ∧ At 0 s2.heap ∧ (∀ b ∈ seen, b < s2.heap.objs.size) ∧ CmpOf prog w A.in1 .Gt IsV gt ∧
      ∀ v hp tk, (if m = 0 then v = d else IsV (argBest gt (m - 1)) v) → (∀ b o, b ∉ own → s2.heap.get? b = some o → hp.get? b = some o) → Q v { s2 with heap := hp, toks := tk }) E s) :
    wpAny (model prog w) A (call (.builtin "max") [x] [(Str.ofString "default", d)]) Q E s := by
  have hnm : (toString "max" ++ toString ".loop" : String) = "max.loop" := by decide
  have hc : wpAny (model prog w) A.in1 (Builtin.«max» ⟨[x], [(Str.ofString "default", d)]⟩) (fun fin s' => match fin with
      | .done f => (match (Except.ok f : Result) with | .ok (.ret v) => Q v s' | .ok _ => False | .error e => E e s')
      | .again c' => c'.quiet = true ∧ codeAny (model prog w) A c' (fun r s' => match r with | .ok (.ret v) => Q v s' | .ok _ => False | .error e => E e s') s') E s := by
    show wpAny (model prog w) A.in1 (Builtin.Builtins.bindParams "max" ["key", "default"] 0 ⟨[], [(Str.ofString "default", d)]⟩ >>= _) _ _ s
    refine wpAny_bind (wpAny_of_eq (bindMaxD d) (wpAny_bind (wpAny_pure ?_)))
    refine wpAny_bind (wpAny_mono h (fun iv s2 hh => ?_) fun _ _ e => e)
    obtain ⟨it, seen, own, m, IsV, At, gt, rfl, Wk, at0, inS, hgt, hQ⟩ := hh
    refine wpAny_bind (wpAny_newObj_type ?_)
    have nB : s2.heap.objs.size ∉ seen := fun z => Nat.lt_irrefl _ (inS _ z)
    rw [hnm]
    refine wpAny_pure ⟨plainId_quiet F.plain_max_loop _, maxFirstK Wk gt hgt s2.heap.objs.size nB d (Wk.frame _ _ _ at0 fun b _ o e => Heap.get?_push_of_some _ e) (Heap.get?_push_size _ rfl) fun v hp tk isv keep => ?_⟩
    exact hQ v hp tk isv fun b o b1 e => keep b o b1 (Nat.ne_of_lt (Heap.lt_size e)) (Heap.get?_push_of_some _ e)
  refine wpAny_call (codeAny_call_builtin F.plain_max F.entry_max ?_)
  simp only [checkBuiltinCall, F.kind_max]
  cases sg : Manifest.signature? "max" with
  | none => exact wpAny_pure hc
  | some sig =>
    have ok : Bind.checkArgs "max" sig ⟨[x], [(Str.ofString "default", d)]⟩ = pure () := by simpa only [argsOk, sg] using argsMaxD x d
    simp only [ok]
    exact wpAny_pure hc
theorem maxIntsD {Q : Value → Shared → Prop} {d : Value} (hh : A.handled = none) (hl : s.heap.IsList l its.toArray) (hi : IntsAre its ns)
    (h : ∀ hp tk v, (∀ b o, s.heap.get? b = some o → hp.get? b = some o) → ((ns = [] ∧ v = d) ∨ ∃ M t, v = .int M t ∧ M ∈ ns ∧ ∀ a, a ∈ ns → a ≤ M) → Q v { s with heap := hp, toks := tk }) : wpAny (model prog w) A (call (.builtin "max") [.ref l] [(Str.ofString "default", d)]) Q E s := by
  obtain ⟨xs, ex⟩ := hi.allInts.items
  have hn : numsOf (intItems xs).toList = ns := by rw [← ex]; exact hi.numsOf
  rw [nums_intItems] at hn
  subst hn
  rw [ex] at hl
  refine callMaxK (iter_intList hl fun s2 es at0 inS hlI => ?_)
  subst es
  have sz : (intItems xs).size = xs.size := by simp [intItems]
  refine ⟨_, _, _, _, _, _, _, rfl, Walks.list (A := A.in1) hh _ l hlI (intItems xs), at0, inS, CmpOf.ints_gt (numAt xs) (fun _ _ => intItems_at), fun v hp tk isv keep => h hp tk v (old_kept keep) ?_⟩
  rw [sz] at isv
  split at isv
  · rename_i hz
    exact .inl ⟨by simpa using hz, isv⟩
  · rename_i hz
    obtain ⟨t, rfl⟩ := intItems_at isv
    obtain ⟨h1, h2⟩ := argBest_gt (numAt xs) (xs.size - 1)
    refine .inr ⟨_, t, rfl, ?_, fun a ha => ?_⟩
    · rw [numAt_eq]; exact PySem.getD_mem (by rw [List.length_map, Array.length_toList]; omega)
    · obtain ⟨j, hj, rfl⟩ := mem_getD ha
      rw [List.length_map, Array.length_toList] at hj
      rw [← numAt_eq]; exact h2 j (by omega)
end
end PySem

namespace DL
open PySem PySem.Spec
open PyProof.Rows L2
/-! ### max(xs, default=k) -/
def maxDV (k : Int) (d : D) : M D := fun os => match lstOf os d with
  | some xs => (match intsOf xs with
    | some [] => .ok (.p (.int k)) os
    | some (b :: bs) => .ok (.p (.int (maxI b bs))) os
    | none => .bad)
  | none => .bad
def rMaxKw (K : PySem.W.Frag) (k : Int) : List V → List V → Hp → VK → Prop := fun vs zs H Q => ∃ (a : Addr) (ns : List Int), vs = [V.ref a] ∧ zs = [.int k] ∧ SqL K H a (ns.map V.int) ∧ ∀ m, ((ns = [] ∧ m = k) ∨ (m ∈ ns ∧ ∀ y, y ∈ ns → y ≤ m)) → Q (.int m) H
section
variable {X : Cx} {K : PySem.W.Frag} {W : XK} {e : Expr} {es : List Expr} {fa : Sl → M (List D)} {fb : Sl → M D} {x : Str} {p pos kpos cpos : Pos}
theorem cr_maxKw (hc : X.calm = true) (k : Int) : CallRK X (.builtin "max") [Str.ofString "default"] (rMaxKw X.K k) := by
  intro pins s σ H vs zs us ws Q I r rz h
  obtain ⟨a, ns, rfl, rfl, hs, q⟩ := h
  obtain ⟨its, rv, hl, _⟩ := I.list hs
  obtain rfl := Vals.ref1 r
  obtain ⟨d, rfl, rd⟩ := vals1 rz
  obtain ⟨t, rfl⟩ := (show ∃ t, d = Value.int k t from rd)
  refine maxIntsD (I.ok.hd hc) hl.isList rv.ints fun hp tk v keep hv => ?_
  rcases hv with ⟨e1, rfl⟩ | ⟨M, t', rfl, h1, h2⟩
  · exact ⟨.int _, H, I.kept keep, ⟨_, rfl⟩, q k (.inl ⟨e1, rfl⟩)⟩
  · exact ⟨.int _, H, I.kept keep, ⟨_, rfl⟩, q M (.inr ⟨h1, h2⟩)⟩
theorem n_maxKw (k : Int) : OpN K (fun vs H Q => rMaxKw K k vs [.int k] H Q) (fn1 (maxDV k)) := n_1 fun W F ad os H x d Q w r1 q => by
  unfold maxDV at q
  cases e : lstOf os d with
  | none => rw [e] at q; exact q.elim
  | some xs =>
    rw [e] at q
    dsimp only at q
    cases e2 : intsOf xs with
    | none => rw [e2] at q; exact q.elim
    | some bs =>
      rw [e2] at q
      obtain ⟨a, vs, rfl, h, r⟩ := lst_at w r1 e
      rw [intsOf_rep e2 r] at h
      cases bs with
      | nil => exact ⟨a, [], rfl, rfl, .of h, fun m hm => by
          rcases hm with ⟨_, rfl⟩ | ⟨h1, _⟩
          · exact q.now w (.int _)
          · cases h1⟩
      | cons b bs => exact ⟨a, _, rfl, rfl, .of h, fun m hm => by
          rcases hm with ⟨h1, _⟩ | ⟨h1, h2⟩
          · cases h1
          · rw [max_of h1 h2]; exact q.now w (.int _)⟩
abbrev maxDf (fa : Sl → M (List D)) (k : Int) : Sl → M D := opN (fn1 (maxDV k)) fa
theorem de_maxDf {k : Int} {jj : Nat} (hc : X.calm = true) (hg : Gl X "max") (hm : X.mg "max" = none) (ha : DA X W (e :: es) fa) 
    (he : backTo pos (starEach (e :: es) X.env) = (false, eval e X.env) :: backTo pos (starEach es X.env) := by rfl) (hpl : (backTo pos (starEach (e :: es) X.env)).any (·.1) = false := by rfl) :
    DE X W (.Call (.Name "max" p) (e :: es) [⟨some "default", .Constant (.int k) jj cpos, kpos⟩] pos) (maxDf fa k) :=
  pe_imp (pe_callBK (tk := tCons (tC (.int k)) tNil) (cr_maxKw hc k) hg hm (by decide +kernel) ha (pk_cons pe_int pk_nil) (by decide) (by decide) he hpl) fun σ H Q h => tN (n_maxKw k) h

theorem strs_rep {F : Hp} : ∀ zs : List Str, RepL K F (zs.map P.str) (zs.map V.str)
  | [] => .nil
  | z :: zs => .cons (.str z) (strs_rep zs)
/-! ### a module's tuple of texts; a module's dict of texts, by key -/
theorem de_gtup {a : Addr} {zs : List Str} (hg : Gl X x) (hm : X.mg x = some (.ref a)) (hs : ∀ H : Hp, SqT X.K H a (zs.map V.str)) (hd : (x == ("__debug__" : Str)) = false := by decide) : DE X W (.Name x pos) (cst (.ctup (zs.map P.str))) :=
  de_cst (pe_glob (v := .ref a) hg hm rfl hd) fun F => .ctup hs (strs_rep zs)
def kixV (tab : List (Str × Str)) (d : D) : M D := fun os => match d with
  | .p (.str z) => (match tab.lookup z with
    | some y => .ok (.p (.str y)) os
    | none => .bad)
  | _ => .bad
theorem a_kix {w : World} {a : Addr} {tab : List (Str × Str)} (ht : ∀ z y, tab.lookup z = some y → KDct K w a z (.str y)) : Op1 K (fun y H Q => rIxD K w (.ref a) y H Q) (kixV tab) := fun W F ad os H y d Q ow r1 q => by
  unfold kixV at q
  cases d with
  | own i => exact q.elim
  | p d =>
    cases r1 with
    | str z =>
      dsimp only at q
      cases e : tab.lookup z with
      | none => rw [e] at q; exact q.elim
      | some y =>
        rw [e] at q
        exact ⟨a, z, _, rfl, rfl, ht z y e, q.now ow (.str y)⟩
    | _ => exact q.elim
theorem de_kix {a : Addr} {tab : List (Str × Str)} (hg : Gl X x) (hm : X.mg x = some (.ref a)) (ht : ∀ z y, tab.lookup z = some y → KDct X.K X.w a z (.str y)) (hb : DE X W e fb) (hs : PlainIx e) (hd : (x == ("__debug__" : Str)) = false := by decide) :
    DE X W (.Subscript (.Name x p) e pos) (op1 (kixV tab) fb) :=
  pe_imp (pe_ix ix_kdict (pe_glob (v := .ref a) hg hm rfl hd) hb hs) fun σ H Q ⟨S, os, F, ad, sl, w, q⟩ => by
    show TD X.K W fb σ H fun y H1 => rIxD X.K X.w (.ref a) y H1 Q
    refine td_bind sl w ?_
    unfold op1 at q
    revert q
    cases fb S os with
    | bad => exact fun q => q
    | ex x os1 => exact fun q => q
    | ok d os1 => exact fun q F1 ad1 H1 v g1 w1 r1 => a_kix ht W F1 ad1 os1 H1 v d Q w1 r1 (OutE.grow g1 q)
end

/-! ### defs by name -/
def DefOk (P' : Program) (w : World) (K : PySem.W.Frag) (mg : Str → Option Value) (base : Heap) (k : Nat) (x : Str) (ps : List Str) (f : List D → M D) : Prop :=
  ∃ fd, FnOk P' w K mg base (L2.CX P' w) k (He.ga K x) fd ps (spD K ps.length f) ∧ Binds K fd ps [] ∧ mg x = some (.ref (He.ga K x)) ∧ PySem.W.keepIn K (.ref (He.ga K x)) = true
section
variable {X : Cx} {W : XK} {e : Expr} {es : List Expr} {fa : Sl → M (List D)} {p pos : Pos} {x : Str} {k : Nat} {ps : List Str} {g : List D → M D}
theorem de_callD {n : Nat} (D0 : DefOk X.prog X.w X.K X.mg X.base k x ps g) (hr : Room k X.A) (hg : Gl X x) (tk : Takes X (fun cls d _ H => W cls d H))
    (ha : DA X W (e :: es) fa) (hdb : (x == ("__debug__" : Str)) = false := by decide) (he : starEach (e :: es) X.env = (false, eval e X.env) :: starEach es X.env := by rfl) (hpl : (backTo pos (starEach es X.env)).any (·.1) = false := by rfl) (hn : ps.length = n := by rfl) :
    DE X W (.Call (.Name x p) (e :: es) [] pos) (opN (callN n g) fa) :=
  let ⟨_, Fn, hb, hm, hk⟩ := D0
  hn ▸ de_call Fn hr hg hm hk hb tk ha hdb he hpl
theorem de_callD0 {n : Nat} (D0 : DefOk X.prog X.w X.K X.mg X.base k x ps g) (hr : Room k X.A) (hg : Gl X x) (tk : Takes X (fun cls d _ H => W cls d H)) (hdb : (x == ("__debug__" : Str)) = false := by decide) (hn : ps.length = n := by rfl) :
    DE X W (.Call (.Name x p) [] [] pos) (opN (callN n g) nilA) :=
  let ⟨_, Fn, hb, hm, hk⟩ := D0
  hn ▸ de_call0 Fn hr hg hm hk hb tk hdb
end
/-! ### built-ins -/
theorem boot_len' : bootBuiltins "len" = some (.builtin "len") := by decide +kernel
theorem boot_all' : bootBuiltins "all" = some (.builtin "all") := by decide +kernel
theorem boot_any' : bootBuiltins "any" = some (.builtin "any") := by decide +kernel
theorem boot_sum' : bootBuiltins "sum" = some (.builtin "sum") := by decide +kernel
theorem boot_abs' : bootBuiltins "abs" = some (.builtin "abs") := by decide +kernel
theorem boot_max' : bootBuiltins "max" = some (.builtin "max") := by decide +kernel
theorem boot_min' : bootBuiltins "min" = some (.builtin "min") := by decide +kernel
theorem boot_sorted' : bootBuiltins "sorted" = some (.builtin "sorted") := by decide +kernel
theorem boot_int' : bootBuiltins "int" = some (.type "int") := by decide +kernel
theorem boot_str' : bootBuiltins "str" = some (.type "str") := by decide +kernel
theorem boot_bool' : bootBuiltins "bool" = some (.type "bool") := by decide +kernel
theorem boot_list' : bootBuiltins "list" = some (.type "list") := by decide +kernel
theorem boot_tuple' : bootBuiltins "tuple" = some (.type "tuple") := by decide +kernel
theorem boot_dict' : bootBuiltins "dict" = some (.type "dict") := by decide +kernel
theorem boot_range' : bootBuiltins "range" = some (.type "range") := by decide +kernel
end DL
/-! printed by gen.py -/
namespace DL
open PySem PySem.Spec
open PyProof.Rows L2
def top (i : Nat) : Stmt := PySem.Challenge.pw_mingle_k80_negated_formulas.main.body.getD i (.Pass ⟨0, 0, 0, 0⟩)
abbrev FnP (K : PySem.W.Frag) (x : Str) (st : Stmt) : Prop := ∃ fd, FunD K x x (defArgs st) (defBody st) (defScope st) [] [] (He.ga K x) fd
/-- which of the classes of errors an except clause takes -/
def exTab (c y : Str) : Option Bool := if y = c then some true else none
structure Tx (P' : Program) (w : World) (K : PySem.W.Frag) (mg : Str → Option Value) (base : Heap) : Prop where
  g__law_draws : mg "_law_draws" = some (.ref (He.ga K "_law_draws"))
  F__law_draws : FnP K "_law_draws" (top 42)
  g__law_cell : mg "_law_cell" = some (.ref (He.ga K "_law_cell"))
  F__law_cell : FnP K "_law_cell" (top 41)
  g__law_pool : mg "_law_pool" = some (.ref (He.ga K "_law_pool"))
  F__law_pool : FnP K "_law_pool" (top 47)
  g__law_var : mg "_law_var" = some (.ref (He.ga K "_law_var"))
  F__law_var : FnP K "_law_var" (top 43)
  g__law_terms : mg "_law_terms" = some (.ref (He.ga K "_law_terms"))
  F__law_terms : FnP K "_law_terms" (top 44)
  g__law_formula : mg "_law_formula" = some (.ref (He.ga K "_law_formula"))
  F__law_formula : FnP K "_law_formula" (top 45)
  g__law_pick : mg "_law_pick" = some (.ref (He.ga K "_law_pick"))
  F__law_pick : FnP K "_law_pick" (top 48)
  g__law_drawn_formula : mg "_law_drawn_formula" = some (.ref (He.ga K "_law_drawn_formula"))
  F__law_drawn_formula : FnP K "_law_drawn_formula" (top 54)
  g_is_name : mg "is_name" = some (.ref (He.ga K "is_name"))
  F_is_name : FnP K "is_name" (top 7)
  g_is_variable : mg "is_variable" = some (.ref (He.ga K "is_variable"))
  F_is_variable : FnP K "is_variable" (top 13)
  g_are_terms : mg "are_terms" = some (.ref (He.ga K "are_terms"))
  F_are_terms : FnP K "are_terms" (top 14)
  g_parts_of : mg "parts_of" = some (.ref (He.ga K "parts_of"))
  F_parts_of : FnP K "parts_of" (top 15)
  g_has_valid_parts : mg "has_valid_parts" = some (.ref (He.ga K "has_valid_parts"))
  F_has_valid_parts : FnP K "has_valid_parts" (top 19)
  g_depth : mg "depth" = some (.ref (He.ga K "depth"))
  F_depth : FnP K "depth" (top 16)
  g_collect : mg "collect" = some (.ref (He.ga K "collect"))
  F_collect : FnP K "collect" (top 17)
  g_variables : mg "variables" = some (.ref (He.ga K "variables"))
  F_variables : FnP K "variables" (top 18)
  g_is_formula : mg "is_formula" = some (.ref (He.ga K "is_formula"))
  F_is_formula : FnP K "is_formula" (top 20)
  g_demand_formula : mg "demand_formula" = some (.ref (He.ga K "demand_formula"))
  F_demand_formula : FnP K "demand_formula" (top 30)
  g_opposite : mg "opposite" = some (.ref (He.ga K "opposite"))
  F_opposite : FnP K "opposite" (top 29)
  g_negated : mg "negated" = some (.ref (He.ga K "negated"))
  F_negated : FnP K "negated" (top 31)
  g__law_told_rewritten : mg "_law_told_rewritten" = some (.ref (He.ga K "_law_told_rewritten"))
  F__law_told_rewritten : FnP K "_law_told_rewritten" (top 56)
  g__law_plainly : mg "_law_plainly" = some (.ref (He.ga K "_law_plainly"))
  F__law_plainly : FnP K "_law_plainly" (top 59)
  g__law_equal : mg "_law_equal" = some (.ref (He.ga K "_law_equal"))
  F__law_equal : FnP K "_law_equal" (top 58)
  g__law_is_variable : mg "_law_is_variable" = some (.ref (He.ga K "_law_is_variable"))
  F__law_is_variable : FnP K "_law_is_variable" (top 50)
  g__law_right_terms : mg "_law_right_terms" = some (.ref (He.ga K "_law_right_terms"))
  F__law_right_terms : FnP K "_law_right_terms" (top 51)
  g__law_right_parts : mg "_law_right_parts" = some (.ref (He.ga K "_law_right_parts"))
  F__law_right_parts : FnP K "_law_right_parts" (top 52)
  g__law_depth : mg "_law_depth" = some (.ref (He.ga K "_law_depth"))
  F__law_depth : FnP K "_law_depth" (top 49)
  g__law_vars : mg "_law_vars" = some (.ref (He.ga K "_law_vars"))
  F__law_vars : FnP K "_law_vars" (top 46)
  g__law_is_formula : mg "_law_is_formula" = some (.ref (He.ga K "_law_is_formula"))
  F__law_is_formula : FnP K "_law_is_formula" (top 53)
  g__law_or_refused : mg "_law_or_refused" = some (.ref (He.ga K "_law_or_refused"))
  F__law_or_refused : FnP K "_law_or_refused" (top 57)
  g__law_opposite : mg "_law_opposite" = some (.ref (He.ga K "_law_opposite"))
  F__law_opposite : FnP K "_law_opposite" (top 55)
  g_law : mg "law" = some (.ref (He.ga K "law"))
  F_law : FnP K "law" (top 60)
  b_all : mg "all" = none
  b_bool : mg "bool" = none
  b_dict : mg "dict" = none
  b_int : mg "int" = none
  b_isinstance : mg "isinstance" = none
  b_len : mg "len" = none
  b_list : mg "list" = none
  b_max : mg "max" = none
  b_min : mg "min" = none
  b_range : mg "range" = none
  b_sorted : mg "sorted" = none
  b_str : mg "str" = none
  b_tuple : mg "tuple" = none
  c_DEEPEST : ∃ t, mg "DEEPEST" = some (.int 8 t)
  c_DIGITS : ∃ t, mg "DIGITS" = some (.str "0123456789" t)
  c_GREATEST : ∃ t, mg "GREATEST" = some (.int 20 t)
  c_LETTERS : ∃ t, mg "LETTERS" = some (.str "abcdefghijklmnopqrstuvwxyz" t)
  c_LONGEST_NAME : ∃ t, mg "LONGEST_NAME" = some (.int 12 t)
  c_MOST_VARIABLES : ∃ t, mg "MOST_VARIABLES" = some (.int 8 t)
  g_OPPOSITE : mg "OPPOSITE" = some (.ref (He.ga K "OPPOSITE"))
  c_OPPOSITE : ∀ z y, List.lookup z ([("and", "or"), ("or", "and"), ("true", "false"), ("false", "true")] : List (Str × Str)) = some y → KDct K w (He.ga K "OPPOSITE") z (.str y)
  g_WORDS : mg "WORDS" = some (.ref (He.ga K "WORDS"))
  c_WORDS : ∀ H : Hp, SqT K H (He.ga K "WORDS") [.str "and", .str "or", .str "not", .str "true", .str "false", .str "mod"]
  g_InvalidFormula : mg "InvalidFormula" = some (.ref (He.ga K "InvalidFormula"))
  x_InvalidFormula : (He.Fa.exc "InvalidFormula").ok K = true
  xm_InvalidFormula : ∀ y b, exTab "InvalidFormula" y = some b → PySem.W.exmOne K (.ref (He.ga K y)) (.ref (He.ga K "InvalidFormula")) = some b
section
variable {P' : Program} {w : World} {K : PySem.W.Frag} {mg : Str → Option Value} {base : Heap}
/-! ### _law_draws -/
theorem sc__law_draws : FnScope ["cell", "count", "rows", "left", "k", "mixed"] ["cell", "count"] (defScope (top 42)) := ⟨rfl, rfl, rfl, by decide +kernel, rfl, by decide +kernel, by decide +kernel⟩
noncomputable def B__law_draws : MS := (sq (asg (ownF (opN mkL nilA)) (nam 2)) (sq (asg (var 0) (nam 3)) (sq (for' (opN itsR1 (consA (var 1) nilA)) (nam 4) (iff' (andB (tst (op2 geV (var 0) (op2 powV (cst (.int 10)) (cst (.int 18))))) (tst (op2 gtV (var 3) (cst (.int 0))))) (sq (drp (mtN "list" appV (var 2) (consA (op2 modV (opN (fn1 intV) (consA (var 3) nilA)) (cst (.int 4096))) nilA))) (asg (op2 divV (var 3) (cst (.int 4096))) (nam 3))) (sq (asg (op2 modV (opN (fn1 intV) (consA (op2 addV (op2 mulV (var 0) (cst (.int 48271))) (op2 mulV (op2 addV (var 4) (cst (.int 1))) (cst (.int 69621)))) nilA)) (cst (.int 2147483647))) (nam 5)) (sq (asg (op2 modV (opN (fn1 intV) (consA (op2 addV (op2 addV (op2 mulV (var 5) (var 5)) (op2 mulV (var 5) (cst (.int 16807)))) (op2 mulV (var 4) (cst (.int 7919)))) nilA)) (cst (.int 2147483629))) (nam 5)) (sq (asg (op2 modV (opN (fn1 intV) (consA (op2 addV (op2 addV (op2 mulV (var 5) (var 5)) (var 0)) (op2 mulV (cst (.int 13)) (var 4))) nilA)) (cst (.int 2147483587))) (nam 5)) (drp (mtN "list" appV (var 2) (consA (op2 modV (op2 divV (var 5) (cst (.int 7))) (cst (.int 4096))) nilA)))))))) (sq (gst 2) (ret (var 2))))))
noncomputable def D__law_draws : List D → M D := fnD 6 B__law_draws
theorem w__law_draws (T : Tx P' w K mg base) : DefOk P' w K mg base 1 "_law_draws" ["cell", "count"] D__law_draws := by
  obtain ⟨fd, Fn⟩ := T.F__law_draws
  refine ⟨fd, fn_D Fn sc__law_draws (fun cdv A outer s H E hr => ?_), Fn.bindsN (fun _ _ _ _ _ _ us hl => match us, hl with | [_, _], _ => rfl), T.g__law_draws, Fn.kp⟩
  have tk := takes_of (X := cxOf (L2.CX P' w) P' w K mg base ["cell", "count", "rows", "left", "k", "mixed"] "_law_draws" (defScope (top 42)) (He.ga K "_law_draws") cdv A outer s H E) rfl rfl rfl rfl
  have hp := passes_of (X := cxOf (L2.CX P' w) P' w K mg base ["cell", "count", "rows", "left", "k", "mixed"] "_law_draws" (defScope (top 42)) (He.ga K "_law_draws") cdv A outer s H E) rfl
  delta B__law_draws
  exact (dss_cons (ds_set (i := 2) sc__law_draws.nd rfl (by first | exact .inl rfl | exact .inr rfl) (de_own (df_lst da_nil))) (dss_cons (ds_set (i := 3) sc__law_draws.nd rfl (by first | exact .inl rfl | exact .inr rfl) (de_var (pv 0))) (dss_cons (ds_for hp rfl (di_rng1 rfl T.b_range (da_cons (de_var (pv 1)) da_nil)) (dg_name (i := 4) sc__law_draws.nd rfl (by first | exact .inl rfl | exact .inr rfl)) (dss_one (ds_if (dt_w (dw_and (dt_cmp o_ge v_cmp (de_var (pv 0)) (de_op op_pow v_pow de_int de_int) (nomark _)) (dw_and1 (dt_cmp o_gt v_cmp (de_var (pv 3)) de_int (nomark _))))) (dss_cons (ds_expr (de_bm PySem.F.plainAttrs_list PySem.F.slot_list_append PySem.F.type_list_append mt_append m_append (de_var (pv 2)) (by exact (da_cons (de_op o_mod v_mod (de_callTy c_int n_int rfl T.b_int boot_int' (da_cons (de_var (pv 3)) da_nil)) de_int) da_nil)))) (dss_one (ds_set (i := 3) sc__law_draws.nd rfl (by first | exact .inl rfl | exact .inr rfl) (de_op o_div v_div (de_var (pv 3)) de_int)))) (dss_cons (ds_set (i := 5) sc__law_draws.nd rfl (by first | exact .inl rfl | exact .inr rfl) (de_op o_mod v_mod (de_callTy c_int n_int rfl T.b_int boot_int' (da_cons (de_op o_add v_add (de_op o_mul v_mul (de_var (pv 0)) de_int) (de_op o_mul v_mul (de_op o_add v_add (de_var (pv 4)) de_int) de_int)) da_nil)) de_int)) (dss_cons (ds_set (i := 5) sc__law_draws.nd rfl (by first | exact .inl rfl | exact .inr rfl) (de_op o_mod v_mod (de_callTy c_int n_int rfl T.b_int boot_int' (da_cons (de_op o_add v_add (de_op o_add v_add (de_op o_mul v_mul (de_var (pv 5)) (de_var (pv 5))) (de_op o_mul v_mul (de_var (pv 5)) de_int)) (de_op o_mul v_mul (de_var (pv 4)) de_int)) da_nil)) de_int)) (dss_cons (ds_set (i := 5) sc__law_draws.nd rfl (by first | exact .inl rfl | exact .inr rfl) (de_op o_mod v_mod (de_callTy c_int n_int rfl T.b_int boot_int' (da_cons (de_op o_add v_add (de_op o_add v_add (de_op o_mul v_mul (de_var (pv 5)) (de_var (pv 5))) (de_var (pv 0))) (de_op o_mul v_mul de_int (de_var (pv 4)))) da_nil)) de_int)) (dss_one (ds_expr (de_bm PySem.F.plainAttrs_list PySem.F.slot_list_append PySem.F.type_list_append mt_append m_append (de_var (pv 2)) (da_cons (de_op o_mod v_mod (de_op o_div v_div (de_var (pv 5)) de_int) de_int) da_nil)))))))))) (dss_gst (i := 2) (dss_one (ds_ret (de_var (pv 2))))))))
/-! ### _law_cell -/
theorem sc__law_cell : FnScope ["script", "k"] ["script", "k"] (defScope (top 41)) := ⟨rfl, rfl, rfl, by decide +kernel, rfl, by decide +kernel, by decide +kernel⟩
noncomputable def B__law_cell : MS := (sq (iff' (tst (op2 ltV (var 1) (opN (fn1 lenV) (consA (var 0) nilA)))) (ret (op2 ixV (var 0) (var 1))) skp) (ret (cst (.int 0))))
noncomputable def D__law_cell : List D → M D := fnD 2 B__law_cell
theorem w__law_cell (T : Tx P' w K mg base) : DefOk P' w K mg base 1 "_law_cell" ["script", "k"] D__law_cell := by
  obtain ⟨fd, Fn⟩ := T.F__law_cell
  refine ⟨fd, fn_D Fn sc__law_cell (fun cdv A outer s H E hr => ?_), Fn.bindsN (fun _ _ _ _ _ _ us hl => match us, hl with | [_, _], _ => rfl), T.g__law_cell, Fn.kp⟩
  have tk := takes_of (X := cxOf (L2.CX P' w) P' w K mg base ["script", "k"] "_law_cell" (defScope (top 41)) (He.ga K "_law_cell") cdv A outer s H E) rfl rfl rfl rfl
  have hp := passes_of (X := cxOf (L2.CX P' w) P' w K mg base ["script", "k"] "_law_cell" (defScope (top 41)) (He.ga K "_law_cell") cdv A outer s H E) rfl
  delta B__law_cell
  exact (dss_cons (ds_if (dt_cmp o_lt v_cmp (de_var (pv 1)) (de_callB c_len n_len rfl T.b_len boot_len' (da_cons (de_var (pv 0)) da_nil)) (nomark _)) (dss_one (ds_ret (de_ix (i_ix (room1 hr)) x_ix (de_var (pv 0)) (de_var (pv 1)) (fun _ _ => rfl)))) dss_nil) (dss_one (ds_ret de_int)))
/-! ### _law_pool -/
theorem sc__law_pool : FnScope ["script", "draws", "k"] ["script"] (defScope (top 47)) := ⟨rfl, rfl, rfl, by decide +kernel, rfl, by decide +kernel, by decide +kernel⟩
noncomputable def B__law_pool : MS := (sq (asg (frzF (opN mkL nilA)) (nam 1)) (sq (for' (opN itsR1 (consA (cst (.int 4)) nilA)) (nam 2) (asg (op2 addV (var 1) (opN (callN 2 D__law_draws) (consA (opN (callN 2 D__law_cell) (consA (var 0) (consA (var 2) nilA))) (consA (cst (.int 40)) nilA)))) (nam 1))) (ret (ownF (opN mkL (consA (var 1) (consA (cst (.int 0)) nilA)))))))
noncomputable def D__law_pool : List D → M D := fnD 3 B__law_pool
theorem w__law_pool (T : Tx P' w K mg base) : DefOk P' w K mg base 2 "_law_pool" ["script"] D__law_pool := by
  obtain ⟨fd, Fn⟩ := T.F__law_pool
  refine ⟨fd, fn_D Fn sc__law_pool (fun cdv A outer s H E hr => ?_), Fn.bindsN (fun _ _ _ _ _ _ us hl => match us, hl with | [_], _ => rfl), T.g__law_pool, Fn.kp⟩
  have tk := takes_of (X := cxOf (L2.CX P' w) P' w K mg base ["script", "draws", "k"] "_law_pool" (defScope (top 47)) (He.ga K "_law_pool") cdv A outer s H E) rfl rfl rfl rfl
  have hp := passes_of (X := cxOf (L2.CX P' w) P' w K mg base ["script", "draws", "k"] "_law_pool" (defScope (top 47)) (He.ga K "_law_pool") cdv A outer s H E) rfl
  delta B__law_pool
  exact (dss_cons (ds_set (i := 1) sc__law_pool.nd rfl (by first | exact .inl rfl | exact .inr rfl) (de_frz (df_lst da_nil))) (dss_cons (ds_for hp rfl (di_rng1 rfl T.b_range (da_cons de_int da_nil)) (dg_name (i := 2) sc__law_pool.nd rfl (by first | exact .inl rfl | exact .inr rfl)) (dss_one (ds_set (i := 1) sc__law_pool.nd rfl (by first | exact .inl rfl | exact .inr rfl) (de_op o_add v_add (de_var (pv 1)) (de_callD (w__law_draws T) (hr.mono (by omega)) rfl tk (by exact (da_cons (de_callD (w__law_cell T) (hr.mono (by omega)) rfl tk (da_cons (de_var (pv 0)) (da_cons (de_var (pv 2)) da_nil))) (da_cons de_int da_nil)))))))) (dss_one (ds_ret (de_own (df_lst (da_cons (de_var (pv 1)) (da_cons de_int da_nil))))))))
/-! ### _law_var -/
theorem sc__law_var : FnScope ["draw"] ["draw"] (defScope (top 43)) := ⟨rfl, rfl, rfl, by decide +kernel, rfl, by decide +kernel, by decide +kernel⟩
noncomputable def B__law_var : MS := (ret (op2 ixV (frzF (opN mkL (consA (cst (.str "x")) (consA (cst (.str "y")) (consA (cst (.str "z1")) (consA (cst (.str "b")) nilA)))))) (op2 modV (var 0) (cst (.int 4)))))
noncomputable def D__law_var : List D → M D := fnD 1 B__law_var
theorem w__law_var (T : Tx P' w K mg base) : DefOk P' w K mg base 1 "_law_var" ["draw"] D__law_var := by
  obtain ⟨fd, Fn⟩ := T.F__law_var
  refine ⟨fd, fn_D Fn sc__law_var (fun cdv A outer s H E hr => ?_), Fn.bindsN (fun _ _ _ _ _ _ us hl => match us, hl with | [_], _ => rfl), T.g__law_var, Fn.kp⟩
  have tk := takes_of (X := cxOf (L2.CX P' w) P' w K mg base ["draw"] "_law_var" (defScope (top 43)) (He.ga K "_law_var") cdv A outer s H E) rfl rfl rfl rfl
  have hp := passes_of (X := cxOf (L2.CX P' w) P' w K mg base ["draw"] "_law_var" (defScope (top 43)) (He.ga K "_law_var") cdv A outer s H E) rfl
  delta B__law_var
  exact (dss_one (ds_ret (de_ix (i_ix (room1 hr)) x_ix (de_frz (df_lst (da_cons de_str (da_cons de_str (da_cons de_str (da_cons de_str da_nil)))))) (de_op o_mod v_mod (de_var (pv 0)) de_int) (fun _ _ => rfl))))
/-! ### _law_terms -/
theorem sc__law_terms : FnScope ["draws", "at", "most", "least", "greatest", "found", "k", "factor", "name"] ["draws", "at", "most", "least", "greatest"] (defScope (top 44)) := ⟨rfl, rfl, rfl, by decide +kernel, rfl, by decide +kernel, by decide +kernel⟩
noncomputable def B__law_terms : MS := (sq (asg newK (nam 5)) (sq (for' (opN itsR1 (consA (op2 addV (cst (.int 1)) (op2 modV (op2 ixV (var 0) (var 1)) (var 2))) nilA)) (nam 6) (sq (asg (op2 addV (var 3) (op2 modV (op2 ixV (var 0) (op2 addV (op2 addV (var 1) (op2 mulV (cst (.int 2)) (var 6))) (cst (.int 1)))) (op2 addV (op2 subV (var 4) (var 3)) (cst (.int 1))))) (nam 7)) (iff' (tst (op2 neX (var 7) (cst (.int 0)))) (sto (var 5) (opN (callN 1 D__law_var) (consA (op2 ixV (var 0) (op2 addV (op2 addV (var 1) (op2 mulV (cst (.int 2)) (var 6))) (cst (.int 2)))) nilA)) (var 7)) skp))) (sq (iff' (tst (op2 eqX (opN (fn1 lenV) (consA (var 5) nilA)) (cst (.int 0)))) (sto (var 5) (cst (.str "x")) (var 4)) skp) (ret (opN (fn1 tupleV) (consA (frzF (lc (op1 itsA (frzF (opN (fn1 sortedV) (consA (var 5) nilA)))) [8] (nam 8) yesB (opN mkT (consA (var 8) (consA (op2 ixV (var 5) (var 8)) nilA))))) nilA))))))
noncomputable def D__law_terms : List D → M D := fnD 9 B__law_terms
theorem w__law_terms (T : Tx P' w K mg base) : DefOk P' w K mg base 2 "_law_terms" ["draws", "at", "most", "least", "greatest"] D__law_terms := by
  obtain ⟨fd, Fn⟩ := T.F__law_terms
  refine ⟨fd, fn_D Fn sc__law_terms (fun cdv A outer s H E hr => ?_), Fn.bindsN (fun _ _ _ _ _ _ us hl => match us, hl with | [_, _, _, _, _], _ => rfl), T.g__law_terms, Fn.kp⟩
  have tk := takes_of (X := cxOf (L2.CX P' w) P' w K mg base ["draws", "at", "most", "least", "greatest", "found", "k", "factor", "name"] "_law_terms" (defScope (top 44)) (He.ga K "_law_terms") cdv A outer s H E) rfl rfl rfl rfl
  have hp := passes_of (X := cxOf (L2.CX P' w) P' w K mg base ["draws", "at", "most", "least", "greatest", "found", "k", "factor", "name"] "_law_terms" (defScope (top 44)) (He.ga K "_law_terms") cdv A outer s H E) rfl
  delta B__law_terms
  exact (dss_cons (ds_set (i := 5) sc__law_terms.nd rfl (by first | exact .inl rfl | exact .inr rfl) de_newK) (dss_cons (ds_for hp rfl (di_rng1 rfl T.b_range (by exact (da_cons (de_op o_add v_add de_int (de_op o_mod v_mod (de_ix (i_ix (room1 hr)) x_ix (de_var (pv 0)) (de_var (pv 1)) (fun _ _ => rfl)) (de_var (pv 2)))) da_nil))) (dg_name (i := 6) sc__law_terms.nd rfl (by first | exact .inl rfl | exact .inr rfl)) (dss_cons (ds_set (i := 7) sc__law_terms.nd rfl (by first | exact .inl rfl | exact .inr rfl) (de_op o_add v_add (de_var (pv 3)) (de_op o_mod v_mod (de_ix (i_ix (room1 hr)) x_ix (de_var (pv 0)) (de_op o_add v_add (de_op o_add v_add (de_var (pv 1)) (de_op o_mul v_mul de_int (de_var (pv 6)))) de_int) (fun _ _ => rfl)) (de_op o_add v_add (de_op op_sub v_sub (de_var (pv 4)) (de_var (pv 3))) de_int)))) (dss_one (ds_if (dt_cmp (o_ne (roomV hr)) v_ne (de_var (pv 7)) de_int (nomark _)) (dss_one (ds_sto (room1 hr) (de_var (pv 7)) (de_var (pv 5)) (de_callD (w__law_var T) (hr.mono (by omega)) rfl tk (by exact (da_cons (de_ix (i_ix (room1 hr)) x_ix (de_var (pv 0)) (de_op o_add v_add (de_op o_add v_add (de_var (pv 1)) (de_op o_mul v_mul de_int (de_var (pv 6)))) de_int) (fun _ _ => rfl)) da_nil))))) dss_nil)))) (dss_cons (ds_if (dt_cmp (o_eq (roomV hr)) v_eq (de_callB c_len n_len rfl T.b_len boot_len' (da_cons (de_var (pv 5)) da_nil)) de_int (nomark _)) (dss_one (ds_sto (room1 hr) (de_var (pv 4)) (de_var (pv 5)) de_str)) dss_nil) (dss_one (ds_ret (de_callTy call_tuple_of n_tuple rfl T.b_tuple boot_tuple' (by exact (da_cons (de_frz (by exact (by exact df_lc rfl sc__law_terms.nd (own := [("name", 8)]) (is := [8]) (by exact (di_any (de_frz (by exact (df_callB (c_sorted rfl) n_sorted rfl T.b_sorted boot_sorted' (da_cons (de_var (pv 5)) da_nil)))))) (by exact blkOk_by (own := [("name", 8)]) (N := ["draws", "at", "most", "least", "greatest", "found", "k", "factor", "name"]) (sc := defScope (top 44)) (by decide +kernel)) (by decide) (fun _ _ _ _ _ => (by exact (dg_name (i := 8) sc__law_terms.nd rfl (by first | exact .inl rfl | exact .inr rfl)))) (fun _ _ _ _ _ => dts_nil) (fun _ _ _ _ _ => (by exact (de_tup (by exact (da_cons (de_var (pv 8)) (da_cons (de_ix (i_ix (room1 hr)) x_ix (de_var (pv 5)) (de_var (pv 8)) (fun _ _ => rfl)) da_nil))))))))) da_nil))))))))
/-! ### _law_formula -/
theorem sc__law_formula : FnScope ["draws", "at", "deep", "size", "way", "more", "terms", "modulus", "word"] ["draws", "at", "deep", "size"] (defScope (top 45)) := ⟨rfl, rfl, rfl, by decide +kernel, rfl, by decide +kernel, by decide +kernel⟩
noncomputable def B__law_formula (rec : List D → M D) : MS := (sq (asg (op2 modV (op2 ixV (var 0) (op2 modV (var 1) (opN (fn1 lenV) (consA (var 0) nilA)))) (cst (.int 12))) (nam 4)) (sq (asg (op2 addV (slice slV (var 0) (part (op2 modV (op2 addV (var 1) (cst (.int 1))) (opN (fn1 lenV) (consA (var 0) nilA)))) noPart) (slice slV (var 0) noPart (part (op2 modV (op2 addV (var 1) (cst (.int 1))) (opN (fn1 lenV) (consA (var 0) nilA)))))) (nam 5)) (sq (iff' (andB (tst (op2 gtV (var 2) (cst (.int 1)))) (tst (op2 ltV (var 4) (cst (.int 3))))) (sq (asg (op2 ixV (frzF (opN mkL (consA (cst (.str "and")) (consA (cst (.str "or")) (consA (cst (.str "and")) nilA))))) (var 4)) (nam 8)) (ret (opN mkT (consA (var 8) (consA (opN (callN 4 rec) (consA (var 0) (consA (op2 addV (op2 mulV (cst (.int 2)) (var 1)) (cst (.int 3))) (consA (op2 subV (var 2) (cst (.int 1))) (consA (var 3) nilA))))) (consA (opN (callN 4 rec) (consA (var 0) (consA (op2 addV (op2 mulV (cst (.int 2)) (var 1)) (cst (.int 11))) (consA (op2 subV (var 2) (cst (.int 1))) (consA (var 3) nilA))))) nilA)))))) skp) (sq (iff' (andB (tst (op2 gtV (var 2) (cst (.int 1)))) (tst (op2 ltV (var 4) (cst (.int 5))))) (ret (opN mkT (consA (cst (.str "not")) (consA (opN (callN 4 rec) (consA (var 0) (consA (op2 addV (var 1) (cst (.int 7))) (consA (op2 subV (var 2) (cst (.int 1))) (consA (var 3) nilA))))) nilA)))) skp) (sq (iff' (tst (op2 eqX (var 4) (cst (.int 5)))) (ret (op2 ixV (frzF (opN mkL (consA (opN mkT (consA (cst (.str "true")) nilA)) (consA (opN mkT (consA (cst (.str "false")) nilA)) nilA)))) (op2 modV (op2 ixV (var 5) (cst (.int 0))) (cst (.int 2))))) skp) (sq (asg (opN (callN 5 D__law_terms) (consA (var 5) (consA (cst (.int 0)) (consA (cst (.int 2)) (consA (op1 negV (var 3)) (consA (var 3) nilA)))))) (nam 6)) (sq (iff' (tst (op2 ltV (var 4) (cst (.int 9)))) (ret (opN mkT (consA (cst (.str "least")) (consA (var 6) (consA (op2 subV (op2 modV (op2 ixV (var 5) (cst (.int 9))) (op2 addV (op2 mulV (cst (.int 2)) (var 3)) (cst (.int 1)))) (var 3)) nilA))))) skp) (sq (asg (op2 addV (cst (.int 2)) (op2 modV (op2 ixV (var 5) (cst (.int 9))) (opN (fn2 max2V) (consA (cst (.int 1)) (consA (opN (fn2 min2V) (consA (cst (.int 19)) (consA (var 3) nilA))) nilA))))) (nam 7)) (ret (opN mkT (consA (cst (.str "rest")) (consA (var 6) (consA (op2 modV (op2 ixV (var 5) (cst (.int 10))) (var 7)) (consA (var 7) nilA))))))))))))))
noncomputable def D__law_formula : Nat → List D → M D
  | 0 => fun _ => M.bad
  | k + 1 => fnD 9 (B__law_formula (D__law_formula k))
theorem w__law_formula (T : Tx P' w K mg base) : ∀ k : Nat, DefOk P' w K mg base (2 + k) "_law_formula" ["draws", "at", "deep", "size"] (D__law_formula k)
  | 0 => by
    obtain ⟨fd, Fn⟩ := T.F__law_formula
    exact ⟨fd, fn_bad, Fn.bindsN (fun _ _ _ _ _ _ us hl => match us, hl with | [_, _, _, _], _ => rfl), T.g__law_formula, Fn.kp⟩
  | k + 1 => by
    have ih := w__law_formula T k
    obtain ⟨fd, Fn⟩ := T.F__law_formula
    refine ⟨fd, fn_D Fn sc__law_formula (fun cdv A outer s H E hr => ?_), Fn.bindsN (fun _ _ _ _ _ _ us hl => match us, hl with | [_, _, _, _], _ => rfl), T.g__law_formula, Fn.kp⟩
    have tk := takes_of (X := cxOf (L2.CX P' w) P' w K mg base ["draws", "at", "deep", "size", "way", "more", "terms", "modulus", "word"] "_law_formula" (defScope (top 45)) (He.ga K "_law_formula") cdv A outer s H E) rfl rfl rfl rfl
    have hp := passes_of (X := cxOf (L2.CX P' w) P' w K mg base ["draws", "at", "deep", "size", "way", "more", "terms", "modulus", "word"] "_law_formula" (defScope (top 45)) (He.ga K "_law_formula") cdv A outer s H E) rfl
    delta B__law_formula
    exact (dss_cons (ds_set (i := 4) sc__law_formula.nd rfl (by first | exact .inl rfl | exact .inr rfl) (de_op o_mod v_mod (de_ix (i_ix (room1 hr)) x_ix (de_var (pv 0)) (de_op o_mod v_mod (de_var (pv 1)) (de_callB c_len n_len rfl T.b_len boot_len' (da_cons (de_var (pv 0)) da_nil))) (fun _ _ => rfl)) de_int)) (dss_cons (ds_set (i := 5) sc__law_formula.nd rfl (by first | exact .inl rfl | exact .inr rfl) (de_op o_add v_add (de_slice (de_var (pv 0)) (do_some (de_op o_mod v_mod (de_op o_add v_add (de_var (pv 1)) de_int) (de_callB c_len n_len rfl T.b_len boot_len' (da_cons (de_var (pv 0)) da_nil)))) do_none) (de_slice (de_var (pv 0)) do_none (do_some (de_op o_mod v_mod (de_op o_add v_add (de_var (pv 1)) de_int) (de_callB c_len n_len rfl T.b_len boot_len' (da_cons (de_var (pv 0)) da_nil))))))) (dss_cons (ds_if (dt_w (dw_and (dt_cmp o_gt v_cmp (de_var (pv 2)) de_int (nomark _)) (dw_and1 (dt_cmp o_lt v_cmp (de_var (pv 4)) de_int (nomark _))))) (dss_cons (ds_set (i := 8) sc__law_formula.nd rfl (by first | exact .inl rfl | exact .inr rfl) (de_ix (i_ix (room1 hr)) x_ix (de_frz (df_lst (da_cons de_str (da_cons de_str (da_cons de_str da_nil))))) (de_var (pv 4)) (fun _ _ => rfl))) (dss_one (ds_ret (de_tup (by exact (da_cons (de_var (pv 8)) (da_cons (de_callD ih hr rfl tk (da_cons (de_var (pv 0)) (da_cons (de_op o_add v_add (de_op o_mul v_mul de_int (de_var (pv 1))) de_int) (da_cons (de_op op_sub v_sub (de_var (pv 2)) de_int) (da_cons (de_var (pv 3)) da_nil))))) (da_cons (de_callD ih hr rfl tk (da_cons (de_var (pv 0)) (da_cons (de_op o_add v_add (de_op o_mul v_mul de_int (de_var (pv 1))) de_int) (da_cons (de_op op_sub v_sub (de_var (pv 2)) de_int) (da_cons (de_var (pv 3)) da_nil))))) da_nil)))))))) dss_nil) (dss_cons (ds_if (dt_w (dw_and (dt_cmp o_gt v_cmp (de_var (pv 2)) de_int (nomark _)) (dw_and1 (dt_cmp o_lt v_cmp (de_var (pv 4)) de_int (nomark _))))) (dss_one (ds_ret (de_tup (by exact (da_cons de_str (da_cons (de_callD ih hr rfl tk (da_cons (de_var (pv 0)) (da_cons (de_op o_add v_add (de_var (pv 1)) de_int) (da_cons (de_op op_sub v_sub (de_var (pv 2)) de_int) (da_cons (de_var (pv 3)) da_nil))))) da_nil)))))) dss_nil) (dss_cons (ds_if (dt_cmp (o_eq (roomV hr)) v_eq (de_var (pv 4)) de_int (nomark _)) (dss_one (ds_ret (de_ix (i_ix (room1 hr)) x_ix (de_frz (df_lst (da_cons (de_tup (da_cons de_str da_nil)) (da_cons (de_tup (da_cons de_str da_nil)) da_nil)))) (de_op o_mod v_mod (de_ix (i_ix (room1 hr)) x_ix (de_var (pv 5)) de_int (fun _ _ => rfl)) de_int) (fun _ _ => rfl)))) dss_nil) (dss_cons (ds_set (i := 6) sc__law_formula.nd rfl (by first | exact .inl rfl | exact .inr rfl) (de_callD (w__law_terms T) (hr.mono (by show _ ≤ 2 + k; omega)) rfl tk (da_cons (de_var (pv 5)) (da_cons de_int (da_cons de_int (da_cons (de_un un_neg v_neg (de_var (pv 3))) (da_cons (de_var (pv 3)) da_nil))))))) (dss_cons (ds_if (dt_cmp o_lt v_cmp (de_var (pv 4)) de_int (nomark _)) (dss_one (ds_ret (de_tup (by exact (da_cons de_str (da_cons (de_var (pv 6)) (da_cons (de_op op_sub v_sub (de_op o_mod v_mod (de_ix (i_ix (room1 hr)) x_ix (de_var (pv 5)) de_int (fun _ _ => rfl)) (de_op o_add v_add (de_op o_mul v_mul de_int (de_var (pv 3))) de_int)) (de_var (pv 3))) da_nil))))))) dss_nil) (dss_cons (ds_set (i := 7) sc__law_formula.nd rfl (by first | exact .inl rfl | exact .inr rfl) (de_op o_add v_add de_int (de_op o_mod v_mod (de_ix (i_ix (room1 hr)) x_ix (de_var (pv 5)) de_int (fun _ _ => rfl)) (de_callB (call_max2 rfl) n_max2 rfl T.b_max boot_max' (by exact (da_cons de_int (da_cons (de_callB (call_min2 rfl) n_min2 rfl T.b_min boot_min' (da_cons de_int (da_cons (de_var (pv 3)) da_nil))) da_nil))))))) (dss_one (ds_ret (de_tup (by exact (da_cons de_str (da_cons (de_var (pv 6)) (da_cons (de_op o_mod v_mod (de_ix (i_ix (room1 hr)) x_ix (de_var (pv 5)) de_int (fun _ _ => rfl)) (de_var (pv 7))) (da_cons (de_var (pv 7)) da_nil))))))))))))))))
/-! ### _law_pick -/
theorem sc__law_pick : FnScope ["pool", "many", "at", "turn"] ["pool", "many"] (defScope (top 48)) := ⟨rfl, rfl, rfl, by decide +kernel, rfl, by decide +kernel, by decide +kernel⟩
noncomputable def B__law_pick : MS := (sq (asg (op2 ixV (var 0) (cst (.int 1))) (nam 2)) (sq (sto (var 0) (cst (.int 1)) (op2 addV (var 2) (cst (.int 1)))) (sq (asg (op2 divV (var 2) (opN (fn1 lenV) (consA (op2 ixV (var 0) (cst (.int 0))) nilA))) (nam 3)) (ret (op2 modV (op2 addV (op2 addV (op2 ixV (op2 ixV (var 0) (cst (.int 0))) (op2 modV (var 2) (opN (fn1 lenV) (consA (op2 ixV (var 0) (cst (.int 0))) nilA)))) (op2 mulV (var 3) (cst (.int 1009)))) (op2 mulV (var 3) (var 2))) (var 1))))))
noncomputable def D__law_pick : List D → M D := fnD 4 B__law_pick
theorem w__law_pick (T : Tx P' w K mg base) : DefOk P' w K mg base 1 "_law_pick" ["pool", "many"] D__law_pick := by
  obtain ⟨fd, Fn⟩ := T.F__law_pick
  refine ⟨fd, fn_D Fn sc__law_pick (fun cdv A outer s H E hr => ?_), Fn.bindsN (fun _ _ _ _ _ _ us hl => match us, hl with | [_, _], _ => rfl), T.g__law_pick, Fn.kp⟩
  have tk := takes_of (X := cxOf (L2.CX P' w) P' w K mg base ["pool", "many", "at", "turn"] "_law_pick" (defScope (top 48)) (He.ga K "_law_pick") cdv A outer s H E) rfl rfl rfl rfl
  have hp := passes_of (X := cxOf (L2.CX P' w) P' w K mg base ["pool", "many", "at", "turn"] "_law_pick" (defScope (top 48)) (He.ga K "_law_pick") cdv A outer s H E) rfl
  delta B__law_pick
  exact (dss_cons (ds_set (i := 2) sc__law_pick.nd rfl (by first | exact .inl rfl | exact .inr rfl) (de_ix (i_ix (room1 hr)) x_ix (de_var (pv 0)) de_int (fun _ _ => rfl))) (dss_cons (ds_sto (room1 hr) (de_op o_add v_add (de_var (pv 2)) de_int) (de_var (pv 0)) de_int) (dss_cons (ds_set (i := 3) sc__law_pick.nd rfl (by first | exact .inl rfl | exact .inr rfl) (de_op o_div v_div (de_var (pv 2)) (de_callB c_len n_len rfl T.b_len boot_len' (by exact (da_cons (de_ix (i_ix (room1 hr)) x_ix (de_var (pv 0)) de_int (fun _ _ => rfl)) da_nil))))) (dss_one (ds_ret (de_op o_mod v_mod (de_op o_add v_add (de_op o_add v_add (de_ix (i_ix (room1 hr)) x_ix (de_ix (i_ix (room1 hr)) x_ix (de_var (pv 0)) de_int (fun _ _ => rfl)) (de_op o_mod v_mod (de_var (pv 2)) (de_callB c_len n_len rfl T.b_len boot_len' (by exact (da_cons (de_ix (i_ix (room1 hr)) x_ix (de_var (pv 0)) de_int (fun _ _ => rfl)) da_nil)))) (fun _ _ => rfl)) (de_op o_mul v_mul (de_var (pv 3)) de_int)) (de_op o_mul v_mul (de_var (pv 3)) (de_var (pv 2)))) (de_var (pv 1))))))))
/-! ### _law_drawn_formula -/
theorem sc__law_drawn_formula : FnScope ["pool", "script", "k", "deep", "size"] ["pool", "script", "k", "deep", "size"] (defScope (top 54)) := ⟨rfl, rfl, rfl, by decide +kernel, rfl, by decide +kernel, by decide +kernel⟩
noncomputable def B__law_drawn_formula : MS := (ret (opN (callN 4 (D__law_formula 10)) (consA (opN (callN 2 D__law_draws) (consA (op2 addV (opN (callN 2 D__law_cell) (consA (var 1) (consA (var 2) nilA))) (opN (callN 2 D__law_pick) (consA (var 0) (consA (cst (.int 30)) nilA)))) (consA (cst (.int 60)) nilA))) (consA (opN (callN 2 D__law_pick) (consA (var 0) (consA (cst (.int 20)) nilA))) (consA (var 3) (consA (var 4) nilA))))))
noncomputable def D__law_drawn_formula : List D → M D := fnD 5 B__law_drawn_formula
theorem w__law_drawn_formula (T : Tx P' w K mg base) : DefOk P' w K mg base 13 "_law_drawn_formula" ["pool", "script", "k", "deep", "size"] D__law_drawn_formula := by
  obtain ⟨fd, Fn⟩ := T.F__law_drawn_formula
  refine ⟨fd, fn_D Fn sc__law_drawn_formula (fun cdv A outer s H E hr => ?_), Fn.bindsN (fun _ _ _ _ _ _ us hl => match us, hl with | [_, _, _, _, _], _ => rfl), T.g__law_drawn_formula, Fn.kp⟩
  have tk := takes_of (X := cxOf (L2.CX P' w) P' w K mg base ["pool", "script", "k", "deep", "size"] "_law_drawn_formula" (defScope (top 54)) (He.ga K "_law_drawn_formula") cdv A outer s H E) rfl rfl rfl rfl
  have hp := passes_of (X := cxOf (L2.CX P' w) P' w K mg base ["pool", "script", "k", "deep", "size"] "_law_drawn_formula" (defScope (top 54)) (He.ga K "_law_drawn_formula") cdv A outer s H E) rfl
  delta B__law_drawn_formula
  exact (dss_one (ds_ret (de_callD (w__law_formula T 10) (hr.mono (by omega)) rfl tk (by exact (da_cons (de_callD (w__law_draws T) (hr.mono (by omega)) rfl tk (by exact (da_cons (de_op o_add v_add (de_callD (w__law_cell T) (hr.mono (by omega)) rfl tk (da_cons (de_var (pv 1)) (da_cons (de_var (pv 2)) da_nil))) (de_callD (w__law_pick T) (hr.mono (by omega)) rfl tk (da_cons (de_var (pv 0)) (da_cons de_int da_nil)))) (da_cons de_int da_nil)))) (da_cons (de_callD (w__law_pick T) (hr.mono (by omega)) rfl tk (da_cons (de_var (pv 0)) (da_cons de_int da_nil))) (da_cons (de_var (pv 3)) (da_cons (de_var (pv 4)) da_nil))))))))
/-! ### is_name -/
theorem sc_is_name : FnScope ["name", "letter"] ["name"] (defScope (top 7)) := ⟨rfl, rfl, rfl, by decide +kernel, rfl, by decide +kernel, by decide +kernel⟩
noncomputable def B_is_name : MS := (sq (iff' (orB (tst (op2 ltV (opN (fn1 lenV) (consA (var 0) nilA)) (cst (.int 1)))) (orB (tst (op2 gtV (opN (fn1 lenV) (consA (var 0) nilA)) (cst (.int 12)))) (tst (op2 notinV (op2 ixV (var 0) (cst (.int 0))) (cst (.str "abcdefghijklmnopqrstuvwxyz")))))) (ret (cst (.bl false))) skp) (ret (opN (fn1 allV) (consA (frzF (lc (op1 itsA (var 0)) [1] (nam 1) yesB (orV (op2 inV' (var 1) (cst (.str "abcdefghijklmnopqrstuvwxyz"))) (op2 inV' (var 1) (cst (.str "0123456789")))))) nilA))))
noncomputable def D_is_name : List D → M D := fnD 2 B_is_name
theorem w_is_name (T : Tx P' w K mg base) : DefOk P' w K mg base 1 "is_name" ["name"] D_is_name := by
  obtain ⟨fd, Fn⟩ := T.F_is_name
  refine ⟨fd, fn_D Fn sc_is_name (fun cdv A outer s H E hr => ?_), Fn.bindsN (fun _ _ _ _ _ _ us hl => match us, hl with | [_], _ => rfl), T.g_is_name, Fn.kp⟩
  have tk := takes_of (X := cxOf (L2.CX P' w) P' w K mg base ["name", "letter"] "is_name" (defScope (top 7)) (He.ga K "is_name") cdv A outer s H E) rfl rfl rfl rfl
  have hp := passes_of (X := cxOf (L2.CX P' w) P' w K mg base ["name", "letter"] "is_name" (defScope (top 7)) (He.ga K "is_name") cdv A outer s H E) rfl
  delta B_is_name
  exact (dss_cons (ds_if (dt_w (dw_or (dt_cmp o_lt v_cmp (de_callB c_len n_len rfl T.b_len boot_len' (da_cons (de_var (pv 0)) da_nil)) de_int (nomark _)) (dw_or (dt_cmp o_gt v_cmp (de_callB c_len n_len rfl T.b_len boot_len' (da_cons (de_var (pv 0)) da_nil)) (de_gint rfl T.c_LONGEST_NAME) (nomark _)) (dw_or1 (dt_cmp (o_notin (roomU hr)) v_notin (de_ix (i_ix (room1 hr)) x_ix (de_var (pv 0)) de_int (fun _ _ => rfl)) (de_gstr rfl T.c_LETTERS) rfl))))) (dss_one (ds_ret de_bl)) dss_nil) (dss_one (ds_ret (de_callB (cr_all rfl) n_all rfl T.b_all boot_all' (by exact (da_cons (de_frz (by exact (by exact df_lc rfl sc_is_name.nd (own := [("letter", 1)]) (is := [1]) (di_any (de_var (pv 0))) (by exact blkOk_by (own := [("letter", 1)]) (N := ["name", "letter"]) (sc := defScope (top 7)) (by decide +kernel)) (by decide) (fun _ _ _ _ _ => (by exact (dg_name (i := 1) sc_is_name.nd rfl (by first | exact .inl rfl | exact .inr rfl)))) (fun _ _ _ _ _ => dts_nil) (fun _ _ _ _ _ => (by exact (de_or (de_cmp (o_in (roomU hr)) v_in (de_var (pv 1)) (de_gstr rfl T.c_LETTERS) rfl) (de_one (de_cmp (o_in (roomU hr)) v_in (de_var (pv 1)) (de_gstr rfl T.c_DIGITS) rfl)))))))) da_nil))))))
/-! ### is_variable -/
theorem sc_is_variable : FnScope ["name"] ["name"] (defScope (top 13)) := ⟨rfl, rfl, rfl, by decide +kernel, rfl, by decide +kernel, by decide +kernel⟩
noncomputable def B_is_variable : MS := (ret (andV (opN (callN 1 D_is_name) (consA (var 0) nilA)) (op2 notinV (var 0) (cst (.ctup [.str "and", .str "or", .str "not", .str "true", .str "false", .str "mod"])))))
noncomputable def D_is_variable : List D → M D := fnD 1 B_is_variable
theorem w_is_variable (T : Tx P' w K mg base) : DefOk P' w K mg base 2 "is_variable" ["name"] D_is_variable := by
  obtain ⟨fd, Fn⟩ := T.F_is_variable
  refine ⟨fd, fn_D Fn sc_is_variable (fun cdv A outer s H E hr => ?_), Fn.bindsN (fun _ _ _ _ _ _ us hl => match us, hl with | [_], _ => rfl), T.g_is_variable, Fn.kp⟩
  have tk := takes_of (X := cxOf (L2.CX P' w) P' w K mg base ["name"] "is_variable" (defScope (top 13)) (He.ga K "is_variable") cdv A outer s H E) rfl rfl rfl rfl
  have hp := passes_of (X := cxOf (L2.CX P' w) P' w K mg base ["name"] "is_variable" (defScope (top 13)) (He.ga K "is_variable") cdv A outer s H E) rfl
  delta B_is_variable
  exact (dss_one (ds_ret (de_and (de_callD (w_is_name T) (hr.mono (by omega)) rfl tk (da_cons (de_var (pv 0)) da_nil)) (de_one (de_cmp (o_notin (roomU hr)) v_notin (de_var (pv 0)) (de_gtup (zs := ["and", "or", "not", "true", "false", "mod"]) rfl T.g_WORDS T.c_WORDS) rfl)))))
/-! ### are_terms -/
theorem sc_are_terms : FnScope ["terms", "least", "greatest", "names", "name", "factor", "at"] ["terms", "least", "greatest"] (defScope (top 14)) := ⟨rfl, rfl, rfl, by decide +kernel, rfl, by decide +kernel, by decide +kernel⟩
noncomputable def B_are_terms : MS := (sq (iff' (tst (op2 ltV (opN (fn1 lenV) (consA (var 0) nilA)) (cst (.int 1)))) (ret (cst (.bl false))) skp) (sq (asg (frzF (lc (op1 itsA (var 0)) [4, 5] (unp 2 (consT (nam 4) (consT (nam 5) nilT))) yesB (var 4))) (nam 3)) (sq (iff' (orB (tst (op2 neX (var 3) (frzF (opN (fn1 sortedV) (consA (var 3) nilA))))) (notB (tst (opN (fn1 allV) (consA (frzF (lc (op1 itsA (var 3)) [4] (nam 4) yesB (opN (callN 1 D_is_variable) (consA (var 4) nilA)))) nilA))))) (ret (cst (.bl false))) skp) (sq (iff' (notB (tst (opN (fn1 allV) (consA (frzF (lc (opN itsR2 (consA (cst (.int 1)) (consA (opN (fn1 lenV) (consA (var 3) nilA)) nilA))) [6] (nam 6) yesB (op2 neX (op2 ixV (var 3) (var 6)) (op2 ixV (var 3) (op2 subV (var 6) (cst (.int 1))))))) nilA)))) (ret (cst (.bl false))) skp) (ret (opN (fn1 allV) (consA (frzF (lc (op1 itsA (var 0)) [4, 5] (unp 2 (consT (nam 4) (consT (nam 5) nilT))) yesB (andV (chn leV leV (var 1) (var 5) (var 2)) (op2 neX (var 5) (cst (.int 0)))))) nilA)))))))
noncomputable def D_are_terms : List D → M D := fnD 7 B_are_terms
theorem w_are_terms (T : Tx P' w K mg base) : DefOk P' w K mg base 3 "are_terms" ["terms", "least", "greatest"] D_are_terms := by
  obtain ⟨fd, Fn⟩ := T.F_are_terms
  refine ⟨fd, fn_D Fn sc_are_terms (fun cdv A outer s H E hr => ?_), Fn.bindsN (fun _ _ _ _ _ _ us hl => match us, hl with | [_, _, _], _ => rfl), T.g_are_terms, Fn.kp⟩
  have tk := takes_of (X := cxOf (L2.CX P' w) P' w K mg base ["terms", "least", "greatest", "names", "name", "factor", "at"] "are_terms" (defScope (top 14)) (He.ga K "are_terms") cdv A outer s H E) rfl rfl rfl rfl
  have hp := passes_of (X := cxOf (L2.CX P' w) P' w K mg base ["terms", "least", "greatest", "names", "name", "factor", "at"] "are_terms" (defScope (top 14)) (He.ga K "are_terms") cdv A outer s H E) rfl
  delta B_are_terms
  exact (dss_cons (ds_if (dt_cmp o_lt v_cmp (de_callB c_len n_len rfl T.b_len boot_len' (da_cons (de_var (pv 0)) da_nil)) de_int (nomark _)) (dss_one (ds_ret de_bl)) dss_nil) (dss_cons (ds_set (i := 3) sc_are_terms.nd rfl (by first | exact .inl rfl | exact .inr rfl) (de_frz (by exact (by exact df_lc rfl sc_are_terms.nd (own := [("name", 4), ("factor", 5)]) (is := [4, 5]) (di_any (de_var (pv 0))) (by exact blkOk_by (own := [("name", 4), ("factor", 5)]) (N := ["terms", "least", "greatest", "names", "name", "factor", "at"]) (sc := defScope (top 14)) (by decide +kernel)) (by decide) (fun _ _ _ _ _ => (by exact (dg_tup rfl (dgs_cons (dg_name (i := 4) sc_are_terms.nd rfl (by first | exact .inl rfl | exact .inr rfl)) (dgs_cons (dg_name (i := 5) sc_are_terms.nd rfl (by first | exact .inl rfl | exact .inr rfl)) dgs_nil))))) (fun _ _ _ _ _ => dts_nil) (fun _ _ _ _ _ => (de_var (pv 4))))))) (dss_cons (ds_if (dt_w (dw_or (dt_cmp (o_ne (roomV hr)) v_ne (de_var (pv 3)) (de_frz (by exact (df_callB (c_sorted rfl) n_sorted rfl T.b_sorted boot_sorted' (da_cons (de_var (pv 3)) da_nil)))) (nomark _)) (dw_or1 (dt_not (dt_val (de_callB (cr_all rfl) n_all rfl T.b_all boot_all' (by exact (da_cons (de_frz (by exact (by exact df_lc rfl sc_are_terms.nd (own := [("name", 4)]) (is := [4]) (di_any (de_var (pv 3))) (by exact blkOk_by (own := [("name", 4)]) (N := ["terms", "least", "greatest", "names", "name", "factor", "at"]) (sc := defScope (top 14)) (by decide +kernel)) (by decide) (fun _ _ _ _ _ => (by exact (dg_name (i := 4) sc_are_terms.nd rfl (by first | exact .inl rfl | exact .inr rfl)))) (fun _ _ _ _ _ => dts_nil) (fun _ _ _ _ _ => (by exact (de_callD (w_is_variable T) (hr.mono (by omega)) rfl takes0 (da_cons (de_var (pv 4)) da_nil))))))) da_nil)))))))) (dss_one (ds_ret de_bl)) dss_nil) (dss_cons (ds_if (dt_not (dt_val (de_callB (cr_all rfl) n_all rfl T.b_all boot_all' (by exact (da_cons (de_frz (by exact (by exact df_lc rfl sc_are_terms.nd (own := [("at", 6)]) (is := [6]) (by exact (di_rng2 rfl T.b_range (by exact (da_cons de_int (da_cons (de_callB c_len n_len rfl T.b_len boot_len' (da_cons (de_var (pv 3)) da_nil)) da_nil))))) (by exact blkOk_by (own := [("at", 6)]) (N := ["terms", "least", "greatest", "names", "name", "factor", "at"]) (sc := defScope (top 14)) (by decide +kernel)) (by decide) (fun _ _ _ _ _ => (by exact (dg_name (i := 6) sc_are_terms.nd rfl (by first | exact .inl rfl | exact .inr rfl)))) (fun _ _ _ _ _ => dts_nil) (fun _ _ _ _ _ => (by exact (de_cmp (o_ne (roomV hr)) v_ne (de_ix (i_ix (room1 hr)) x_ix (de_var (pv 3)) (de_var (pv 6)) (fun _ _ => rfl)) (de_ix (i_ix (room1 hr)) x_ix (de_var (pv 3)) (de_op op_sub v_sub (de_var (pv 6)) de_int) (fun _ _ => rfl)) (nomark _))))))) da_nil))))) (dss_one (ds_ret de_bl)) dss_nil) (dss_one (ds_ret (de_callB (cr_all rfl) n_all rfl T.b_all boot_all' (by exact (da_cons (de_frz (by exact (by exact df_lc rfl sc_are_terms.nd (own := [("name", 4), ("factor", 5)]) (is := [4, 5]) (di_any (de_var (pv 0))) (by exact blkOk_by (own := [("name", 4), ("factor", 5)]) (N := ["terms", "least", "greatest", "names", "name", "factor", "at"]) (sc := defScope (top 14)) (by decide +kernel)) (by decide) (fun _ _ _ _ _ => (by exact (dg_tup rfl (dgs_cons (dg_name (i := 4) sc_are_terms.nd rfl (by first | exact .inl rfl | exact .inr rfl)) (dgs_cons (dg_name (i := 5) sc_are_terms.nd rfl (by first | exact .inl rfl | exact .inr rfl)) dgs_nil))))) (fun _ _ _ _ _ => dts_nil) (fun _ _ _ _ _ => (de_and (de_chain o_le v_cmp o_le v_cmp (de_var (pv 1)) (de_var (pv 5)) (de_var (pv 2))) (de_one (de_cmp (o_ne (roomV hr)) v_ne (de_var (pv 5)) de_int (nomark _)))))))) da_nil)))))))))
/-! ### parts_of -/
theorem sc_parts_of : FnScope ["formula"] ["formula"] (defScope (top 15)) := ⟨rfl, rfl, rfl, by decide +kernel, rfl, by decide +kernel, by decide +kernel⟩
noncomputable def B_parts_of : MS := (sq (iff' (tst (op2 inV' (op2 ixV (var 0) (cst (.int 0))) (opN mkT (consA (cst (.str "not")) (consA (cst (.str "and")) (consA (cst (.str "or")) nilA)))))) (ret (frzF (opN (fn1 listV) (consA (slice slV (var 0) (part (cst (.int 1))) noPart) nilA)))) skp) (ret (frzF (opN mkL nilA))))
noncomputable def D_parts_of : List D → M D := fnD 1 B_parts_of
theorem w_parts_of (T : Tx P' w K mg base) : DefOk P' w K mg base 1 "parts_of" ["formula"] D_parts_of := by
  obtain ⟨fd, Fn⟩ := T.F_parts_of
  refine ⟨fd, fn_D Fn sc_parts_of (fun cdv A outer s H E hr => ?_), Fn.bindsN (fun _ _ _ _ _ _ us hl => match us, hl with | [_], _ => rfl), T.g_parts_of, Fn.kp⟩
  have tk := takes_of (X := cxOf (L2.CX P' w) P' w K mg base ["formula"] "parts_of" (defScope (top 15)) (He.ga K "parts_of") cdv A outer s H E) rfl rfl rfl rfl
  have hp := passes_of (X := cxOf (L2.CX P' w) P' w K mg base ["formula"] "parts_of" (defScope (top 15)) (He.ga K "parts_of") cdv A outer s H E) rfl
  delta B_parts_of
  exact (dss_cons (ds_if (dt_cmp (o_in (roomU hr)) v_in (de_ix (i_ix (room1 hr)) x_ix (de_var (pv 0)) de_int (fun _ _ => rfl)) (de_tup (da_cons de_str (da_cons de_str (da_cons de_str da_nil)))) rfl) (dss_one (ds_ret (de_frz (by exact (df_callTy (c_list rfl) n_list rfl T.b_list boot_list' (da_cons (de_slice (de_var (pv 0)) (do_some de_int) do_none) da_nil)))))) dss_nil) (dss_one (ds_ret (de_frz (df_lst da_nil)))))
/-! ### has_valid_parts -/
theorem sc_has_valid_parts : FnScope ["formula", "kind", "part"] ["formula"] (defScope (top 19)) := ⟨rfl, rfl, rfl, by decide +kernel, rfl, by decide +kernel, by decide +kernel⟩
noncomputable def B_has_valid_parts (rec : List D → M D) : MS := (sq (asg (op2 ixV (var 0) (cst (.int 0))) (nam 1)) (sq (iff' (orB (tst (op2 eqX (var 1) (cst (.str "true")))) (tst (op2 eqX (var 1) (cst (.str "false"))))) (ret (cst (.bl true))) skp) (sq (iff' (tst (op2 eqX (var 1) (cst (.str "least")))) (ret (andV (opN (callN 3 D_are_terms) (consA (op2 ixV (var 0) (cst (.int 1))) (consA (op1 negV (cst (.int 20))) (consA (cst (.int 20)) nilA)))) (chn leV leV (op1 negV (cst (.int 20))) (op2 ixV (var 0) (cst (.int 2))) (cst (.int 20))))) skp) (sq (iff' (tst (op2 eqX (var 1) (cst (.str "rest")))) (sq (iff' (orB (notB (tst (chn leV leV (cst (.int 2)) (op2 ixV (var 0) (cst (.int 3))) (cst (.int 20))))) (notB (tst (chn leV ltV (cst (.int 0)) (op2 ixV (var 0) (cst (.int 2))) (op2 ixV (var 0) (cst (.int 3))))))) (ret (cst (.bl false))) skp) (ret (opN (callN 3 D_are_terms) (consA (op2 ixV (var 0) (cst (.int 1))) (consA (op1 negV (cst (.int 20))) (consA (cst (.int 20)) nilA)))))) skp) (sq (iff' (tst (op2 notinV (var 1) (opN mkT (consA (cst (.str "not")) (consA (cst (.str "and")) (consA (cst (.str "or")) nilA)))))) (ret (cst (.bl false))) skp) (ret (opN (fn1 allV) (consA (frzF (lc (op1 itsA (opN (callN 1 D_parts_of) (consA (var 0) nilA))) [2] (nam 2) yesB (opN (callN 1 rec) (consA (var 2) nilA)))) nilA))))))))
noncomputable def D_has_valid_parts : Nat → List D → M D
  | 0 => fun _ => M.bad
  | k + 1 => fnD 3 (B_has_valid_parts (D_has_valid_parts k))
theorem w_has_valid_parts (T : Tx P' w K mg base) : ∀ k : Nat, DefOk P' w K mg base (3 + k) "has_valid_parts" ["formula"] (D_has_valid_parts k)
  | 0 => by
    obtain ⟨fd, Fn⟩ := T.F_has_valid_parts
    exact ⟨fd, fn_bad, Fn.bindsN (fun _ _ _ _ _ _ us hl => match us, hl with | [_], _ => rfl), T.g_has_valid_parts, Fn.kp⟩
  | k + 1 => by
    have ih := w_has_valid_parts T k
    obtain ⟨fd, Fn⟩ := T.F_has_valid_parts
    refine ⟨fd, fn_D Fn sc_has_valid_parts (fun cdv A outer s H E hr => ?_), Fn.bindsN (fun _ _ _ _ _ _ us hl => match us, hl with | [_], _ => rfl), T.g_has_valid_parts, Fn.kp⟩
    have tk := takes_of (X := cxOf (L2.CX P' w) P' w K mg base ["formula", "kind", "part"] "has_valid_parts" (defScope (top 19)) (He.ga K "has_valid_parts") cdv A outer s H E) rfl rfl rfl rfl
    have hp := passes_of (X := cxOf (L2.CX P' w) P' w K mg base ["formula", "kind", "part"] "has_valid_parts" (defScope (top 19)) (He.ga K "has_valid_parts") cdv A outer s H E) rfl
    delta B_has_valid_parts
    exact (dss_cons (ds_set (i := 1) sc_has_valid_parts.nd rfl (by first | exact .inl rfl | exact .inr rfl) (de_ix (i_ix (room1 hr)) x_ix (de_var (pv 0)) de_int (fun _ _ => rfl))) (dss_cons (ds_if (dt_w (dw_or (dt_cmp (o_eq (roomV hr)) v_eq (de_var (pv 1)) de_str (nomark _)) (dw_or1 (dt_cmp (o_eq (roomV hr)) v_eq (de_var (pv 1)) de_str (nomark _))))) (dss_one (ds_ret de_bl)) dss_nil) (dss_cons (ds_if (dt_cmp (o_eq (roomV hr)) v_eq (de_var (pv 1)) de_str (nomark _)) (dss_one (ds_ret (de_and (de_callD (w_are_terms T) (hr.mono (by show _ ≤ 3 + k; omega)) rfl tk (by exact (da_cons (de_ix (i_ix (room1 hr)) x_ix (de_var (pv 0)) de_int (fun _ _ => rfl)) (da_cons (de_un un_neg v_neg (de_gint rfl T.c_GREATEST)) (da_cons (de_gint rfl T.c_GREATEST) da_nil))))) (de_one (de_chain o_le v_cmp o_le v_cmp (de_un un_neg v_neg (de_gint rfl T.c_GREATEST)) (de_ix (i_ix (room1 hr)) x_ix (de_var (pv 0)) de_int (fun _ _ => rfl)) (de_gint rfl T.c_GREATEST)))))) dss_nil) (dss_cons (ds_if (dt_cmp (o_eq (roomV hr)) v_eq (de_var (pv 1)) de_str (nomark _)) (dss_cons (ds_if (dt_w (dw_or (dt_not (dt_chain o_le v_cmp o_le v_cmp de_int (de_ix (i_ix (room1 hr)) x_ix (de_var (pv 0)) de_int (fun _ _ => rfl)) (de_gint rfl T.c_GREATEST))) (dw_or1 (dt_not (dt_chain o_le v_cmp o_lt v_cmp de_int (de_ix (i_ix (room1 hr)) x_ix (de_var (pv 0)) de_int (fun _ _ => rfl)) (de_ix (i_ix (room1 hr)) x_ix (de_var (pv 0)) de_int (fun _ _ => rfl))))))) (dss_one (ds_ret de_bl)) dss_nil) (dss_one (ds_ret (de_callD (w_are_terms T) (hr.mono (by show _ ≤ 3 + k; omega)) rfl tk (by exact (da_cons (de_ix (i_ix (room1 hr)) x_ix (de_var (pv 0)) de_int (fun _ _ => rfl)) (da_cons (de_un un_neg v_neg (de_gint rfl T.c_GREATEST)) (da_cons (de_gint rfl T.c_GREATEST) da_nil)))))))) dss_nil) (dss_cons (ds_if (dt_cmp (o_notin (roomU hr)) v_notin (de_var (pv 1)) (de_tup (da_cons de_str (da_cons de_str (da_cons de_str da_nil)))) rfl) (dss_one (ds_ret de_bl)) dss_nil) (dss_one (ds_ret (de_callB (cr_all rfl) n_all rfl T.b_all boot_all' (by exact (da_cons (de_frz (by exact (by exact df_lc rfl sc_has_valid_parts.nd (own := [("part", 2)]) (is := [2]) (by exact (di_any (de_callD (w_parts_of T) (hr.mono (by show _ ≤ 3 + k; omega)) rfl tk (da_cons (de_var (pv 0)) da_nil)))) (by exact blkOk_by (own := [("part", 2)]) (N := ["formula", "kind", "part"]) (sc := defScope (top 19)) (by decide +kernel)) (by decide) (fun _ _ _ _ _ => (by exact (dg_name (i := 2) sc_has_valid_parts.nd rfl (by first | exact .inl rfl | exact .inr rfl)))) (fun _ _ _ _ _ => dts_nil) (fun _ _ _ _ _ => (by exact (de_callD ih hr rfl takes0 (da_cons (de_var (pv 2)) da_nil))))))) da_nil))))))))))
/-! ### depth -/
theorem sc_depth : FnScope ["formula", "part"] ["formula"] (defScope (top 16)) := ⟨rfl, rfl, rfl, by decide +kernel, rfl, by decide +kernel, by decide +kernel⟩
noncomputable def B_depth (rec : List D → M D) : MS := (ret (op2 addV (cst (.int 1)) (maxDf (consA (frzF (lc (op1 itsA (opN (callN 1 D_parts_of) (consA (var 0) nilA))) [1] (nam 1) yesB (opN (callN 1 rec) (consA (var 1) nilA)))) nilA) 0)))
noncomputable def D_depth : Nat → List D → M D
  | 0 => fun _ => M.bad
  | k + 1 => fnD 2 (B_depth (D_depth k))
theorem w_depth (T : Tx P' w K mg base) : ∀ k : Nat, DefOk P' w K mg base (1 + k) "depth" ["formula"] (D_depth k)
  | 0 => by
    obtain ⟨fd, Fn⟩ := T.F_depth
    exact ⟨fd, fn_bad, Fn.bindsN (fun _ _ _ _ _ _ us hl => match us, hl with | [_], _ => rfl), T.g_depth, Fn.kp⟩
  | k + 1 => by
    have ih := w_depth T k
    obtain ⟨fd, Fn⟩ := T.F_depth
    refine ⟨fd, fn_D Fn sc_depth (fun cdv A outer s H E hr => ?_), Fn.bindsN (fun _ _ _ _ _ _ us hl => match us, hl with | [_], _ => rfl), T.g_depth, Fn.kp⟩
    have tk := takes_of (X := cxOf (L2.CX P' w) P' w K mg base ["formula", "part"] "depth" (defScope (top 16)) (He.ga K "depth") cdv A outer s H E) rfl rfl rfl rfl
    have hp := passes_of (X := cxOf (L2.CX P' w) P' w K mg base ["formula", "part"] "depth" (defScope (top 16)) (He.ga K "depth") cdv A outer s H E) rfl
    delta B_depth
    exact (dss_one (ds_ret (de_op o_add v_add de_int (de_maxDf rfl rfl T.b_max (by exact (da_cons (de_frz (by exact (by exact df_lc rfl sc_depth.nd (own := [("part", 1)]) (is := [1]) (by exact (di_any (de_callD (w_parts_of T) (hr.mono (by show _ ≤ 1 + k; omega)) rfl tk (da_cons (de_var (pv 0)) da_nil)))) (by exact blkOk_by (own := [("part", 1)]) (N := ["formula", "part"]) (sc := defScope (top 16)) (by decide +kernel)) (by decide) (fun _ _ _ _ _ => (by exact (dg_name (i := 1) sc_depth.nd rfl (by first | exact .inl rfl | exact .inr rfl)))) (fun _ _ _ _ _ => dts_nil) (fun _ _ _ _ _ => (by exact (de_callD ih hr rfl takes0 (da_cons (de_var (pv 1)) da_nil))))))) da_nil))))))
/-! ### collect -/
theorem sc_collect : FnScope ["formula", "found", "part", "name", "factor"] ["formula", "found"] (defScope (top 17)) := ⟨rfl, rfl, rfl, by decide +kernel, rfl, by decide +kernel, by decide +kernel⟩
noncomputable def B_collect (rec : List D → M D) : MS := (sq (iff' (tst (op2 inV' (op2 ixV (var 0) (cst (.int 0))) (opN mkT (consA (cst (.str "least")) (consA (cst (.str "rest")) nilA))))) (for' (op1 itsA (op2 ixV (var 0) (cst (.int 1)))) (unp 2 (consT (nam 3) (consT (nam 4) nilT))) (sto (var 1) (var 3) (cst (.bl true)))) skp) (for' (op1 itsA (opN (callN 1 D_parts_of) (consA (var 0) nilA))) (nam 2) (drp (opN (callN 2 rec) (consA (var 2) (consA (var 1) nilA))))))
noncomputable def D_collect : Nat → List D → M D
  | 0 => fun _ => M.bad
  | k + 1 => fnD 5 (B_collect (D_collect k))
theorem w_collect (T : Tx P' w K mg base) : ∀ k : Nat, DefOk P' w K mg base (1 + k) "collect" ["formula", "found"] (D_collect k)
  | 0 => by
    obtain ⟨fd, Fn⟩ := T.F_collect
    exact ⟨fd, fn_bad, Fn.bindsN (fun _ _ _ _ _ _ us hl => match us, hl with | [_, _], _ => rfl), T.g_collect, Fn.kp⟩
  | k + 1 => by
    have ih := w_collect T k
    obtain ⟨fd, Fn⟩ := T.F_collect
    refine ⟨fd, fn_D Fn sc_collect (fun cdv A outer s H E hr => ?_), Fn.bindsN (fun _ _ _ _ _ _ us hl => match us, hl with | [_, _], _ => rfl), T.g_collect, Fn.kp⟩
    have tk := takes_of (X := cxOf (L2.CX P' w) P' w K mg base ["formula", "found", "part", "name", "factor"] "collect" (defScope (top 17)) (He.ga K "collect") cdv A outer s H E) rfl rfl rfl rfl
    have hp := passes_of (X := cxOf (L2.CX P' w) P' w K mg base ["formula", "found", "part", "name", "factor"] "collect" (defScope (top 17)) (He.ga K "collect") cdv A outer s H E) rfl
    delta B_collect
    exact (dss_cons (ds_if (dt_cmp (o_in (roomU hr)) v_in (de_ix (i_ix (room1 hr)) x_ix (de_var (pv 0)) de_int (fun _ _ => rfl)) (de_tup (da_cons de_str (da_cons de_str da_nil))) rfl) (dss_one (ds_for hp rfl (di_any (de_ix (i_ix (room1 hr)) x_ix (de_var (pv 0)) de_int (fun _ _ => rfl))) (dg_tup rfl (dgs_cons (dg_name (i := 3) sc_collect.nd rfl (by first | exact .inl rfl | exact .inr rfl)) (dgs_cons (dg_name (i := 4) sc_collect.nd rfl (by first | exact .inl rfl | exact .inr rfl)) dgs_nil))) (dss_one (ds_sto (room1 hr) de_bl (de_var (pv 1)) (de_var (pv 3)))))) dss_nil) (dss_one (ds_for hp rfl (di_any (de_callD (w_parts_of T) (hr.mono (by show _ ≤ 1 + k; omega)) rfl tk (da_cons (de_var (pv 0)) da_nil))) (dg_name (i := 2) sc_collect.nd rfl (by first | exact .inl rfl | exact .inr rfl)) (dss_one (ds_expr (de_callD ih hr rfl tk (da_cons (de_var (pv 2)) (da_cons (de_var (pv 1)) da_nil))))))))
/-! ### variables -/
theorem sc_variables : FnScope ["formula", "found"] ["formula"] (defScope (top 18)) := ⟨rfl, rfl, rfl, by decide +kernel, rfl, by decide +kernel, by decide +kernel⟩
noncomputable def B_variables : MS := (sq (asg newK (nam 1)) (sq (drp (opN (callN 2 (D_collect 20)) (consA (var 0) (consA (var 1) nilA)))) (ret (frzF (opN (fn1 sortedV) (consA (var 1) nilA))))))
noncomputable def D_variables : List D → M D := fnD 2 B_variables
theorem w_variables (T : Tx P' w K mg base) : DefOk P' w K mg base 22 "variables" ["formula"] D_variables := by
  obtain ⟨fd, Fn⟩ := T.F_variables
  refine ⟨fd, fn_D Fn sc_variables (fun cdv A outer s H E hr => ?_), Fn.bindsN (fun _ _ _ _ _ _ us hl => match us, hl with | [_], _ => rfl), T.g_variables, Fn.kp⟩
  have tk := takes_of (X := cxOf (L2.CX P' w) P' w K mg base ["formula", "found"] "variables" (defScope (top 18)) (He.ga K "variables") cdv A outer s H E) rfl rfl rfl rfl
  have hp := passes_of (X := cxOf (L2.CX P' w) P' w K mg base ["formula", "found"] "variables" (defScope (top 18)) (He.ga K "variables") cdv A outer s H E) rfl
  delta B_variables
  exact (dss_cons (ds_set (i := 1) sc_variables.nd rfl (by first | exact .inl rfl | exact .inr rfl) de_newK) (dss_cons (ds_expr (de_callD (w_collect T 20) (hr.mono (by omega)) rfl tk (da_cons (de_var (pv 0)) (da_cons (de_var (pv 1)) da_nil)))) (dss_one (ds_ret (de_frz (by exact (df_callB (c_sorted rfl) n_sorted rfl T.b_sorted boot_sorted' (da_cons (de_var (pv 1)) da_nil))))))))
/-! ### is_formula -/
theorem sc_is_formula : FnScope ["formula"] ["formula"] (defScope (top 20)) := ⟨rfl, rfl, rfl, by decide +kernel, rfl, by decide +kernel, by decide +kernel⟩
noncomputable def B_is_formula : MS := (ret (andV (opN (callN 1 (D_has_valid_parts 20)) (consA (var 0) nilA)) (andV (op2 leV (opN (callN 1 (D_depth 20)) (consA (var 0) nilA)) (cst (.int 8))) (op2 leV (opN (fn1 lenV) (consA (opN (callN 1 D_variables) (consA (var 0) nilA)) nilA)) (cst (.int 8))))))
noncomputable def D_is_formula : List D → M D := fnD 1 B_is_formula
theorem w_is_formula (T : Tx P' w K mg base) : DefOk P' w K mg base 24 "is_formula" ["formula"] D_is_formula := by
  obtain ⟨fd, Fn⟩ := T.F_is_formula
  refine ⟨fd, fn_D Fn sc_is_formula (fun cdv A outer s H E hr => ?_), Fn.bindsN (fun _ _ _ _ _ _ us hl => match us, hl with | [_], _ => rfl), T.g_is_formula, Fn.kp⟩
  have tk := takes_of (X := cxOf (L2.CX P' w) P' w K mg base ["formula"] "is_formula" (defScope (top 20)) (He.ga K "is_formula") cdv A outer s H E) rfl rfl rfl rfl
  have hp := passes_of (X := cxOf (L2.CX P' w) P' w K mg base ["formula"] "is_formula" (defScope (top 20)) (He.ga K "is_formula") cdv A outer s H E) rfl
  delta B_is_formula
  exact (dss_one (ds_ret (de_and (de_callD (w_has_valid_parts T 20) (hr.mono (by omega)) rfl tk (da_cons (de_var (pv 0)) da_nil)) (de_and (de_cmp o_le v_cmp (de_callD (w_depth T 20) (hr.mono (by omega)) rfl tk (da_cons (de_var (pv 0)) da_nil)) (de_gint rfl T.c_DEEPEST) (nomark _)) (de_one (de_cmp o_le v_cmp (de_callB c_len n_len rfl T.b_len boot_len' (by exact (da_cons (de_callD (w_variables T) (hr.mono (by omega)) rfl tk (da_cons (de_var (pv 0)) da_nil)) da_nil))) (de_gint rfl T.c_MOST_VARIABLES) (nomark _)))))))
/-! ### demand_formula -/
theorem sc_demand_formula : FnScope ["formula"] ["formula"] (defScope (top 30)) := ⟨rfl, rfl, rfl, by decide +kernel, rfl, by decide +kernel, by decide +kernel⟩
noncomputable def B_demand_formula : MS := (sq (iff' (notB (tst (opN (callN 1 D_is_formula) (consA (var 0) nilA)))) (rse "InvalidFormula") skp) (ret (var 0)))
noncomputable def D_demand_formula : List D → M D := fnD 1 B_demand_formula
theorem w_demand_formula (T : Tx P' w K mg base) : DefOk P' w K mg base 25 "demand_formula" ["formula"] D_demand_formula := by
  obtain ⟨fd, Fn⟩ := T.F_demand_formula
  refine ⟨fd, fn_D Fn sc_demand_formula (fun cdv A outer s H E hr => ?_), Fn.bindsN (fun _ _ _ _ _ _ us hl => match us, hl with | [_], _ => rfl), T.g_demand_formula, Fn.kp⟩
  have tk := takes_of (X := cxOf (L2.CX P' w) P' w K mg base ["formula"] "demand_formula" (defScope (top 30)) (He.ga K "demand_formula") cdv A outer s H E) rfl rfl rfl rfl
  have hp := passes_of (X := cxOf (L2.CX P' w) P' w K mg base ["formula"] "demand_formula" (defScope (top 30)) (He.ga K "demand_formula") cdv A outer s H E) rfl
  delta B_demand_formula
  exact (dss_cons (ds_if (dt_not (dt_val (de_callD (w_is_formula T) (hr.mono (by omega)) rfl tk (da_cons (de_var (pv 0)) da_nil)))) (dss_one (ds_raise rfl tk rfl T.x_InvalidFormula T.g_InvalidFormula)) dss_nil) (dss_one (ds_ret (de_var (pv 0)))))
/-! ### opposite -/
theorem sc_opposite : FnScope ["formula", "kind", "name", "factor"] ["formula"] (defScope (top 29)) := ⟨rfl, rfl, rfl, by decide +kernel, rfl, by decide +kernel, by decide +kernel⟩
noncomputable def B_opposite (rec : List D → M D) : MS := (sq (asg (op2 ixV (var 0) (cst (.int 0))) (nam 1)) (sq (iff' (tst (op2 eqX (var 1) (cst (.str "least")))) (ret (opN mkT (consA (cst (.str "least")) (consA (opN (fn1 tupleV) (consA (frzF (lc (op1 itsA (op2 ixV (var 0) (cst (.int 1)))) [2, 3] (unp 2 (consT (nam 2) (consT (nam 3) nilT))) yesB (opN mkT (consA (var 2) (consA (op1 negV (var 3)) nilA))))) nilA)) (consA (op2 subV (cst (.int 1)) (op2 ixV (var 0) (cst (.int 2)))) nilA))))) skp) (sq (iff' (tst (op2 eqX (var 1) (cst (.str "rest")))) (ret (opN mkT (consA (cst (.str "not")) (consA (var 0) nilA)))) skp) (sq (iff' (tst (op2 eqX (var 1) (cst (.str "not")))) (ret (op2 ixV (var 0) (cst (.int 1)))) skp) (sq (iff' (tst (op2 inV' (var 1) (opN mkT (consA (cst (.str "and")) (consA (cst (.str "or")) nilA))))) (ret (opN mkT (consA (op1 (kixV [("and", "or"), ("or", "and"), ("true", "false"), ("false", "true")]) (var 1)) (consA (opN (callN 1 rec) (consA (op2 ixV (var 0) (cst (.int 1))) nilA)) (consA (opN (callN 1 rec) (consA (op2 ixV (var 0) (cst (.int 2))) nilA)) nilA))))) skp) (ret (opN mkT (consA (op1 (kixV [("and", "or"), ("or", "and"), ("true", "false"), ("false", "true")]) (var 1)) nilA))))))))
noncomputable def D_opposite : Nat → List D → M D
  | 0 => fun _ => M.bad
  | k + 1 => fnD 4 (B_opposite (D_opposite k))
theorem w_opposite (T : Tx P' w K mg base) : ∀ k : Nat, DefOk P' w K mg base (0 + k) "opposite" ["formula"] (D_opposite k)
  | 0 => by
    obtain ⟨fd, Fn⟩ := T.F_opposite
    exact ⟨fd, fn_bad, Fn.bindsN (fun _ _ _ _ _ _ us hl => match us, hl with | [_], _ => rfl), T.g_opposite, Fn.kp⟩
  | k + 1 => by
    have ih := w_opposite T k
    obtain ⟨fd, Fn⟩ := T.F_opposite
    refine ⟨fd, fn_D Fn sc_opposite (fun cdv A outer s H E hr => ?_), Fn.bindsN (fun _ _ _ _ _ _ us hl => match us, hl with | [_], _ => rfl), T.g_opposite, Fn.kp⟩
    have tk := takes_of (X := cxOf (L2.CX P' w) P' w K mg base ["formula", "kind", "name", "factor"] "opposite" (defScope (top 29)) (He.ga K "opposite") cdv A outer s H E) rfl rfl rfl rfl
    have hp := passes_of (X := cxOf (L2.CX P' w) P' w K mg base ["formula", "kind", "name", "factor"] "opposite" (defScope (top 29)) (He.ga K "opposite") cdv A outer s H E) rfl
    delta B_opposite
    exact (dss_cons (ds_set (i := 1) sc_opposite.nd rfl (by first | exact .inl rfl | exact .inr rfl) (de_ix (i_ix (room1 hr)) x_ix (de_var (pv 0)) de_int (fun _ _ => rfl))) (dss_cons (ds_if (dt_cmp (o_eq (roomV hr)) v_eq (de_var (pv 1)) de_str (nomark _)) (dss_one (ds_ret (de_tup (by exact (da_cons de_str (da_cons (de_callTy call_tuple_of n_tuple rfl T.b_tuple boot_tuple' (by exact (da_cons (de_frz (by exact (by exact df_lc rfl sc_opposite.nd (own := [("name", 2), ("factor", 3)]) (is := [2, 3]) (by exact (di_any (de_ix (i_ix (room1 hr)) x_ix (de_var (pv 0)) de_int (fun _ _ => rfl)))) (by exact blkOk_by (own := [("name", 2), ("factor", 3)]) (N := ["formula", "kind", "name", "factor"]) (sc := defScope (top 29)) (by decide +kernel)) (by decide) (fun _ _ _ _ _ => (by exact (dg_tup rfl (dgs_cons (dg_name (i := 2) sc_opposite.nd rfl (by first | exact .inl rfl | exact .inr rfl)) (dgs_cons (dg_name (i := 3) sc_opposite.nd rfl (by first | exact .inl rfl | exact .inr rfl)) dgs_nil))))) (fun _ _ _ _ _ => dts_nil) (fun _ _ _ _ _ => (de_tup (da_cons (de_var (pv 2)) (da_cons (de_un un_neg v_neg (de_var (pv 3))) da_nil))))))) da_nil))) (da_cons (de_op op_sub v_sub de_int (de_ix (i_ix (room1 hr)) x_ix (de_var (pv 0)) de_int (fun _ _ => rfl))) da_nil))))))) dss_nil) (dss_cons (ds_if (dt_cmp (o_eq (roomV hr)) v_eq (de_var (pv 1)) de_str (nomark _)) (dss_one (ds_ret (de_tup (da_cons de_str (da_cons (de_var (pv 0)) da_nil))))) dss_nil) (dss_cons (ds_if (dt_cmp (o_eq (roomV hr)) v_eq (de_var (pv 1)) de_str (nomark _)) (dss_one (ds_ret (de_ix (i_ix (room1 hr)) x_ix (de_var (pv 0)) de_int (fun _ _ => rfl)))) dss_nil) (dss_cons (ds_if (dt_cmp (o_in (roomU hr)) v_in (de_var (pv 1)) (de_tup (da_cons de_str (da_cons de_str da_nil))) rfl) (dss_one (ds_ret (de_tup (by exact (da_cons (de_kix rfl T.g_OPPOSITE T.c_OPPOSITE (de_var (pv 1)) (fun _ _ => rfl)) (da_cons (de_callD ih hr rfl tk (by exact (da_cons (de_ix (i_ix (room1 hr)) x_ix (de_var (pv 0)) de_int (fun _ _ => rfl)) da_nil))) (da_cons (de_callD ih hr rfl tk (by exact (da_cons (de_ix (i_ix (room1 hr)) x_ix (de_var (pv 0)) de_int (fun _ _ => rfl)) da_nil))) da_nil))))))) dss_nil) (dss_one (ds_ret (de_tup (by exact (da_cons (de_kix rfl T.g_OPPOSITE T.c_OPPOSITE (de_var (pv 1)) (fun _ _ => rfl)) da_nil))))))))))
/-! ### negated -/
theorem sc_negated : FnScope ["formula"] ["formula"] (defScope (top 31)) := ⟨rfl, rfl, rfl, by decide +kernel, rfl, by decide +kernel, by decide +kernel⟩
noncomputable def B_negated : MS := (ret (opN (callN 1 D_demand_formula) (consA (opN (callN 1 (D_opposite 20)) (consA (var 0) nilA)) nilA)))
noncomputable def D_negated : List D → M D := fnD 1 B_negated
theorem w_negated (T : Tx P' w K mg base) : DefOk P' w K mg base 26 "negated" ["formula"] D_negated := by
  obtain ⟨fd, Fn⟩ := T.F_negated
  refine ⟨fd, fn_D Fn sc_negated (fun cdv A outer s H E hr => ?_), Fn.bindsN (fun _ _ _ _ _ _ us hl => match us, hl with | [_], _ => rfl), T.g_negated, Fn.kp⟩
  have tk := takes_of (X := cxOf (L2.CX P' w) P' w K mg base ["formula"] "negated" (defScope (top 31)) (He.ga K "negated") cdv A outer s H E) rfl rfl rfl rfl
  have hp := passes_of (X := cxOf (L2.CX P' w) P' w K mg base ["formula"] "negated" (defScope (top 31)) (He.ga K "negated") cdv A outer s H E) rfl
  delta B_negated
  exact (dss_one (ds_ret (de_callD (w_demand_formula T) (hr.mono (by omega)) rfl tk (by exact (da_cons (de_callD (w_opposite T 20) (hr.mono (by omega)) rfl tk (da_cons (de_var (pv 0)) da_nil)) da_nil)))))
/-! ### _law_told_rewritten -/
theorem sc__law_told_rewritten : FnScope ["formula", "way", "names"] ["formula", "way", "names"] (defScope (top 56)) := ⟨rfl, rfl, rfl, by decide +kernel, rfl, by decide +kernel, by decide +kernel⟩
noncomputable def B__law_told_rewritten : MS := (tryD (exTab "InvalidFormula") (sq (iff' (tst (op2 eqX (var 1) (cst (.int 0)))) (ret (opN (callN 1 D_negated) (consA (var 0) nilA))) skp) (sq (iff' (tst (op2 eqX (var 1) (cst (.int 1)))) (ret bad') skp) (ret bad'))) (ret (opN mkT (consA (cst (.str "refused")) nilA))))
noncomputable def D__law_told_rewritten : List D → M D := fnD 3 B__law_told_rewritten
theorem w__law_told_rewritten (T : Tx P' w K mg base) : DefOk P' w K mg base 27 "_law_told_rewritten" ["formula", "way", "names"] D__law_told_rewritten := by
  obtain ⟨fd, Fn⟩ := T.F__law_told_rewritten
  refine ⟨fd, fn_D Fn sc__law_told_rewritten (fun cdv A outer s H E hr => ?_), Fn.bindsN (fun _ _ _ _ _ _ us hl => match us, hl with | [_, _, _], _ => rfl), T.g__law_told_rewritten, Fn.kp⟩
  have tk := takes_of (X := cxOf (L2.CX P' w) P' w K mg base ["formula", "way", "names"] "_law_told_rewritten" (defScope (top 56)) (He.ga K "_law_told_rewritten") cdv A outer s H E) rfl rfl rfl rfl
  have hp := passes_of (X := cxOf (L2.CX P' w) P' w K mg base ["formula", "way", "names"] "_law_told_rewritten" (defScope (top 56)) (He.ga K "_law_told_rewritten") cdv A outer s H E) rfl
  delta B__law_told_rewritten
  exact (dss_one (ds_try rfl rfl ⟨rfl, by decide, .inl T.g_InvalidFormula⟩ tk (T.xm_InvalidFormula) (fun W2 pn xe tk2 hp2 => (dss_cons (ds_if (dt_cmp (o_eq (roomV hr)) v_eq (de_var (pv 1)) de_int (nomark _)) (dss_one (ds_ret (de_callD (w_negated T) (hr.mono (by omega)) rfl tk2 (da_cons (de_var (pv 0)) da_nil)))) dss_nil) (dss_cons (ds_if (dt_cmp (o_eq (roomV hr)) v_eq (de_var (pv 1)) de_int (nomark _)) (dss_one (ds_ret de_bad)) dss_nil) (dss_one (ds_ret de_bad))))) (fun _ _ _ => (dss_one (ds_ret (de_tup (da_cons de_str da_nil)))))))
/-! ### _law_plainly -/
theorem sc__law_plainly : FnScope ["x", "due", "k"] ["x", "due"] (defScope (top 59)) := ⟨rfl, rfl, rfl, by decide +kernel, rfl, by decide +kernel, by decide +kernel⟩
noncomputable def B__law_plainly (rec : List D → M D) : MS := (sq (iff' (tst (op1 (isiV .tupleT) (var 1))) (ret (andV (op1 (isiV .tupleT) (var 0)) (andV (op2 eqX (opN (fn1 lenV) (consA (var 0) nilA)) (opN (fn1 lenV) (consA (var 1) nilA))) (op2 eqX (opN (fn1 lenV) (consA (frzF (lc (opN itsR1 (consA (opN (fn1 lenV) (consA (var 1) nilA)) nilA)) [2] (nam 2) (notB (tst (opN (callN 2 rec) (consA (op2 ixV (var 0) (var 2)) (consA (op2 ixV (var 1) (var 2)) nilA))))) (var 2))) nilA)) (cst (.int 0)))))) skp) (sq (iff' (tst (op1 (isiV .strT) (var 1))) (ret (andV (op1 (isiV .strT) (var 0)) (op2 eqX (var 0) (var 1)))) skp) (ret (andV (op1 (isiV .intT) (var 0)) (andV (op1 notV (op1 (isiV .boolT) (var 0))) (op2 eqX (var 0) (var 1)))))))
noncomputable def D__law_plainly : Nat → List D → M D
  | 0 => fun _ => M.bad
  | k + 1 => fnD 3 (B__law_plainly (D__law_plainly k))
theorem w__law_plainly (T : Tx P' w K mg base) : ∀ k : Nat, DefOk P' w K mg base (0 + k) "_law_plainly" ["x", "due"] (D__law_plainly k)
  | 0 => by
    obtain ⟨fd, Fn⟩ := T.F__law_plainly
    exact ⟨fd, fn_bad, Fn.bindsN (fun _ _ _ _ _ _ us hl => match us, hl with | [_, _], _ => rfl), T.g__law_plainly, Fn.kp⟩
  | k + 1 => by
    have ih := w__law_plainly T k
    obtain ⟨fd, Fn⟩ := T.F__law_plainly
    refine ⟨fd, fn_D Fn sc__law_plainly (fun cdv A outer s H E hr => ?_), Fn.bindsN (fun _ _ _ _ _ _ us hl => match us, hl with | [_, _], _ => rfl), T.g__law_plainly, Fn.kp⟩
    have tk := takes_of (X := cxOf (L2.CX P' w) P' w K mg base ["x", "due", "k"] "_law_plainly" (defScope (top 59)) (He.ga K "_law_plainly") cdv A outer s H E) rfl rfl rfl rfl
    have hp := passes_of (X := cxOf (L2.CX P' w) P' w K mg base ["x", "due", "k"] "_law_plainly" (defScope (top 59)) (He.ga K "_law_plainly") cdv A outer s H E) rfl
    delta B__law_plainly
    exact (dss_cons (ds_if (dt_val (de_isi .tupleT (by intro h; cases h) (x := "isinstance") rfl T.b_isinstance (de_var (pv 1)) (pe_bltn (v := .ty "tuple") (u := .type "tuple") rfl T.b_tuple boot_tuple' rfl))) (dss_one (ds_ret (de_and (de_isi .tupleT (by intro h; cases h) (x := "isinstance") rfl T.b_isinstance (de_var (pv 0)) (pe_bltn (v := .ty "tuple") (u := .type "tuple") rfl T.b_tuple boot_tuple' rfl)) (de_and (de_cmp (o_eq (roomV hr)) v_eq (de_callB c_len n_len rfl T.b_len boot_len' (da_cons (de_var (pv 0)) da_nil)) (de_callB c_len n_len rfl T.b_len boot_len' (da_cons (de_var (pv 1)) da_nil)) (nomark _)) (de_one (de_cmp (o_eq (roomV hr)) v_eq (de_callB c_len n_len rfl T.b_len boot_len' (by exact (da_cons (de_frz (by exact (by exact df_lc rfl sc__law_plainly.nd (own := [("k", 2)]) (is := [2]) (by exact (di_rng1 rfl T.b_range (by exact (da_cons (de_callB c_len n_len rfl T.b_len boot_len' (da_cons (de_var (pv 1)) da_nil)) da_nil)))) (by exact blkOk_by (own := [("k", 2)]) (N := ["x", "due", "k"]) (sc := defScope (top 59)) (by decide +kernel)) (by decide) (fun _ _ _ _ _ => (by exact (dg_name (i := 2) sc__law_plainly.nd rfl (by first | exact .inl rfl | exact .inr rfl)))) (fun _ _ _ _ _ => (by exact (dts_one (dt_not (dt_val (de_callD ih hr rfl takes0 (by exact (da_cons (de_ix (i_ix (room1 hr)) x_ix (de_var (pv 0)) (de_var (pv 2)) (fun _ _ => rfl)) (da_cons (de_ix (i_ix (room1 hr)) x_ix (de_var (pv 1)) (de_var (pv 2)) (fun _ _ => rfl)) da_nil))))))))) (fun _ _ _ _ _ => (de_var (pv 2)))))) da_nil))) de_int (nomark _))))))) dss_nil) (dss_cons (ds_if (dt_val (de_isi .strT (by intro h; cases h) (x := "isinstance") rfl T.b_isinstance (de_var (pv 1)) (pe_bltn (v := .ty "str") (u := .type "str") rfl T.b_str boot_str' rfl))) (dss_one (ds_ret (de_and (de_isi .strT (by intro h; cases h) (x := "isinstance") rfl T.b_isinstance (de_var (pv 0)) (pe_bltn (v := .ty "str") (u := .type "str") rfl T.b_str boot_str' rfl)) (de_one (de_cmp (o_eq (roomV hr)) v_eq (de_var (pv 0)) (de_var (pv 1)) (nomark _)))))) dss_nil) (dss_one (ds_ret (de_and (de_isi .intT (by intro h; cases h) (x := "isinstance") rfl T.b_isinstance (de_var (pv 0)) (pe_bltn (v := .ty "int") (u := .type "int") rfl T.b_int boot_int' rfl)) (de_and (de_not (de_isi .boolT (by intro h; cases h) (x := "isinstance") rfl T.b_isinstance (de_var (pv 0)) (pe_bltn (v := .ty "bool") (u := .type "bool") rfl T.b_bool boot_bool' rfl))) (de_one (de_cmp (o_eq (roomV hr)) v_eq (de_var (pv 0)) (de_var (pv 1)) (nomark _)))))))))
/-! ### _law_equal -/
theorem sc__law_equal : FnScope ["x", "y", "k", "key"] ["x", "y"] (defScope (top 58)) := ⟨rfl, rfl, rfl, by decide +kernel, rfl, by decide +kernel, by decide +kernel⟩
noncomputable def B__law_equal (rec : List D → M D) : MS := (sq (iff' (orB (tst (op2 neX (op1 (isiV .boolT) (var 0)) (op1 (isiV .boolT) (var 1)))) (orB (tst (op2 neX (op1 (isiV .intT) (var 0)) (op1 (isiV .intT) (var 1)))) (tst (op2 neX (op1 (isiV .strT) (var 0)) (op1 (isiV .strT) (var 1)))))) (ret (cst (.bl false))) skp) (sq (iff' (orB (tst (op2 neX (op1 (isiV .listT) (var 0)) (op1 (isiV .listT) (var 1)))) (orB (tst (op2 neX (op1 (isiV .tupleT) (var 0)) (op1 (isiV .tupleT) (var 1)))) (tst (op2 neX (op1 (isiV .dictT) (var 0)) (op1 (isiV .dictT) (var 1)))))) (ret (cst (.bl false))) skp) (sq (iff' (orB (tst (op1 (isiV .listT) (var 1))) (tst (op1 (isiV .tupleT) (var 1)))) (ret (andV (op2 eqX (opN (fn1 lenV) (consA (var 0) nilA)) (opN (fn1 lenV) (consA (var 1) nilA))) (opN (fn1 allV) (consA (frzF (lc (opN itsR1 (consA (opN (fn1 lenV) (consA (var 1) nilA)) nilA)) [2] (nam 2) yesB (opN (callN 2 rec) (consA (op2 ixV (var 0) (var 2)) (consA (op2 ixV (var 1) (var 2)) nilA))))) nilA)))) skp) (sq (iff' (tst (op1 (isiV .dictT) (var 1))) (ret (andV (op2 eqX (opN (fn1 lenV) (consA (var 0) nilA)) (opN (fn1 lenV) (consA (var 1) nilA))) (opN (fn1 allV) (consA (frzF (lc (op1 itsA (var 1)) [3] (nam 3) yesB (andV (op2 inV' (var 3) (var 0)) (opN (callN 2 rec) (consA (op2 ixV (var 0) (var 3)) (consA (op2 ixV (var 1) (var 3)) nilA)))))) nilA)))) skp) (ret (op2 isV (op2 eqX (var 0) (var 1)) (cst (.bl true))))))))
noncomputable def D__law_equal : Nat → List D → M D
  | 0 => fun _ => M.bad
  | k + 1 => fnD 4 (B__law_equal (D__law_equal k))
theorem w__law_equal (T : Tx P' w K mg base) : ∀ k : Nat, DefOk P' w K mg base (0 + k) "_law_equal" ["x", "y"] (D__law_equal k)
  | 0 => by
    obtain ⟨fd, Fn⟩ := T.F__law_equal
    exact ⟨fd, fn_bad, Fn.bindsN (fun _ _ _ _ _ _ us hl => match us, hl with | [_, _], _ => rfl), T.g__law_equal, Fn.kp⟩
  | k + 1 => by
    have ih := w__law_equal T k
    obtain ⟨fd, Fn⟩ := T.F__law_equal
    refine ⟨fd, fn_D Fn sc__law_equal (fun cdv A outer s H E hr => ?_), Fn.bindsN (fun _ _ _ _ _ _ us hl => match us, hl with | [_, _], _ => rfl), T.g__law_equal, Fn.kp⟩
    have tk := takes_of (X := cxOf (L2.CX P' w) P' w K mg base ["x", "y", "k", "key"] "_law_equal" (defScope (top 58)) (He.ga K "_law_equal") cdv A outer s H E) rfl rfl rfl rfl
    have hp := passes_of (X := cxOf (L2.CX P' w) P' w K mg base ["x", "y", "k", "key"] "_law_equal" (defScope (top 58)) (He.ga K "_law_equal") cdv A outer s H E) rfl
    delta B__law_equal
    exact (dss_cons (ds_if (dt_w (dw_or (dt_cmp (o_ne (roomV hr)) v_ne (de_isi .boolT (by intro h; cases h) (x := "isinstance") rfl T.b_isinstance (de_var (pv 0)) (pe_bltn (v := .ty "bool") (u := .type "bool") rfl T.b_bool boot_bool' rfl)) (de_isi .boolT (by intro h; cases h) (x := "isinstance") rfl T.b_isinstance (de_var (pv 1)) (pe_bltn (v := .ty "bool") (u := .type "bool") rfl T.b_bool boot_bool' rfl)) (nomark _)) (dw_or (dt_cmp (o_ne (roomV hr)) v_ne (de_isi .intT (by intro h; cases h) (x := "isinstance") rfl T.b_isinstance (de_var (pv 0)) (pe_bltn (v := .ty "int") (u := .type "int") rfl T.b_int boot_int' rfl)) (de_isi .intT (by intro h; cases h) (x := "isinstance") rfl T.b_isinstance (de_var (pv 1)) (pe_bltn (v := .ty "int") (u := .type "int") rfl T.b_int boot_int' rfl)) (nomark _)) (dw_or1 (dt_cmp (o_ne (roomV hr)) v_ne (de_isi .strT (by intro h; cases h) (x := "isinstance") rfl T.b_isinstance (de_var (pv 0)) (pe_bltn (v := .ty "str") (u := .type "str") rfl T.b_str boot_str' rfl)) (de_isi .strT (by intro h; cases h) (x := "isinstance") rfl T.b_isinstance (de_var (pv 1)) (pe_bltn (v := .ty "str") (u := .type "str") rfl T.b_str boot_str' rfl)) (nomark _)))))) (dss_one (ds_ret de_bl)) dss_nil) (dss_cons (ds_if (dt_w (dw_or (dt_cmp (o_ne (roomV hr)) v_ne (de_isi .listT (by intro h; cases h) (x := "isinstance") rfl T.b_isinstance (de_var (pv 0)) (pe_bltn (v := .ty "list") (u := .type "list") rfl T.b_list boot_list' rfl)) (de_isi .listT (by intro h; cases h) (x := "isinstance") rfl T.b_isinstance (de_var (pv 1)) (pe_bltn (v := .ty "list") (u := .type "list") rfl T.b_list boot_list' rfl)) (nomark _)) (dw_or (dt_cmp (o_ne (roomV hr)) v_ne (de_isi .tupleT (by intro h; cases h) (x := "isinstance") rfl T.b_isinstance (de_var (pv 0)) (pe_bltn (v := .ty "tuple") (u := .type "tuple") rfl T.b_tuple boot_tuple' rfl)) (de_isi .tupleT (by intro h; cases h) (x := "isinstance") rfl T.b_isinstance (de_var (pv 1)) (pe_bltn (v := .ty "tuple") (u := .type "tuple") rfl T.b_tuple boot_tuple' rfl)) (nomark _)) (dw_or1 (dt_cmp (o_ne (roomV hr)) v_ne (de_isi .dictT (by intro h; cases h) (x := "isinstance") rfl T.b_isinstance (de_var (pv 0)) (pe_bltn (v := .ty "dict") (u := .type "dict") rfl T.b_dict boot_dict' rfl)) (de_isi .dictT (by intro h; cases h) (x := "isinstance") rfl T.b_isinstance (de_var (pv 1)) (pe_bltn (v := .ty "dict") (u := .type "dict") rfl T.b_dict boot_dict' rfl)) (nomark _)))))) (dss_one (ds_ret de_bl)) dss_nil) (dss_cons (ds_if (dt_w (dw_or (dt_val (de_isi .listT (by intro h; cases h) (x := "isinstance") rfl T.b_isinstance (de_var (pv 1)) (pe_bltn (v := .ty "list") (u := .type "list") rfl T.b_list boot_list' rfl))) (dw_or1 (dt_val (de_isi .tupleT (by intro h; cases h) (x := "isinstance") rfl T.b_isinstance (de_var (pv 1)) (pe_bltn (v := .ty "tuple") (u := .type "tuple") rfl T.b_tuple boot_tuple' rfl)))))) (dss_one (ds_ret (de_and (de_cmp (o_eq (roomV hr)) v_eq (de_callB c_len n_len rfl T.b_len boot_len' (da_cons (de_var (pv 0)) da_nil)) (de_callB c_len n_len rfl T.b_len boot_len' (da_cons (de_var (pv 1)) da_nil)) (nomark _)) (de_one (de_callB (cr_all rfl) n_all rfl T.b_all boot_all' (by exact (da_cons (de_frz (by exact (by exact df_lc rfl sc__law_equal.nd (own := [("k", 2)]) (is := [2]) (by exact (di_rng1 rfl T.b_range (by exact (da_cons (de_callB c_len n_len rfl T.b_len boot_len' (da_cons (de_var (pv 1)) da_nil)) da_nil)))) (by exact blkOk_by (own := [("k", 2)]) (N := ["x", "y", "k", "key"]) (sc := defScope (top 58)) (by decide +kernel)) (by decide) (fun _ _ _ _ _ => (by exact (dg_name (i := 2) sc__law_equal.nd rfl (by first | exact .inl rfl | exact .inr rfl)))) (fun _ _ _ _ _ => dts_nil) (fun _ _ _ _ _ => (by exact (de_callD ih hr rfl takes0 (by exact (da_cons (de_ix (i_ix (room1 hr)) x_ix (de_var (pv 0)) (de_var (pv 2)) (fun _ _ => rfl)) (da_cons (de_ix (i_ix (room1 hr)) x_ix (de_var (pv 1)) (de_var (pv 2)) (fun _ _ => rfl)) da_nil))))))))) da_nil))))))) dss_nil) (dss_cons (ds_if (dt_val (de_isi .dictT (by intro h; cases h) (x := "isinstance") rfl T.b_isinstance (de_var (pv 1)) (pe_bltn (v := .ty "dict") (u := .type "dict") rfl T.b_dict boot_dict' rfl))) (dss_one (ds_ret (de_and (de_cmp (o_eq (roomV hr)) v_eq (de_callB c_len n_len rfl T.b_len boot_len' (da_cons (de_var (pv 0)) da_nil)) (de_callB c_len n_len rfl T.b_len boot_len' (da_cons (de_var (pv 1)) da_nil)) (nomark _)) (de_one (de_callB (cr_all rfl) n_all rfl T.b_all boot_all' (by exact (da_cons (de_frz (by exact (by exact df_lc rfl sc__law_equal.nd (own := [("key", 3)]) (is := [3]) (di_any (de_var (pv 1))) (by exact blkOk_by (own := [("key", 3)]) (N := ["x", "y", "k", "key"]) (sc := defScope (top 58)) (by decide +kernel)) (by decide) (fun _ _ _ _ _ => (by exact (dg_name (i := 3) sc__law_equal.nd rfl (by first | exact .inl rfl | exact .inr rfl)))) (fun _ _ _ _ _ => dts_nil) (fun _ _ _ _ _ => (by exact (de_and (de_cmp (o_in (roomU hr)) v_in (de_var (pv 3)) (de_var (pv 0)) rfl) (de_one (de_callD ih hr rfl takes0 (by exact (da_cons (de_ix (i_ix (room1 hr)) x_ix (de_var (pv 0)) (de_var (pv 3)) (fun _ _ => rfl)) (da_cons (de_ix (i_ix (room1 hr)) x_ix (de_var (pv 1)) (de_var (pv 3)) (fun _ _ => rfl)) da_nil))))))))))) da_nil))))))) dss_nil) (dss_one (ds_ret (de_cmp o_is v_is (de_cmp (o_eq (roomV hr)) v_eq (de_var (pv 0)) (de_var (pv 1)) (nomark _)) de_bl (nomark _))))))))
/-! ### _law_is_variable -/
theorem sc__law_is_variable : FnScope ["name", "letters", "sign"] ["name"] (defScope (top 50)) := ⟨rfl, rfl, rfl, by decide +kernel, rfl, by decide +kernel, by decide +kernel⟩
noncomputable def B__law_is_variable : MS := (sq (asg (cst (.str "abcdefghijklmnopqrstuvwxyz")) (nam 1)) (sq (iff' (orB (notB (tst (chn leV leV (cst (.int 1)) (opN (fn1 lenV) (consA (var 0) nilA)) (cst (.int 12))))) (orB (tst (op2 notinV (op2 ixV (var 0) (cst (.int 0))) (var 1))) (tst (op2 inV' (var 0) (opN mkT (consA (cst (.str "and")) (consA (cst (.str "or")) (consA (cst (.str "not")) (consA (cst (.str "true")) (consA (cst (.str "false")) (consA (cst (.str "mod")) nilA))))))))))) (ret (cst (.bl false))) skp) (ret (op2 eqX (frzF (lc (op1 itsA (var 0)) [2] (nam 2) (tst (op2 notinV (var 2) (op2 addV (var 1) (cst (.str "0123456789"))))) (var 2))) (frzF (opN mkL nilA))))))
noncomputable def D__law_is_variable : List D → M D := fnD 3 B__law_is_variable
theorem w__law_is_variable (T : Tx P' w K mg base) : DefOk P' w K mg base 1 "_law_is_variable" ["name"] D__law_is_variable := by
  obtain ⟨fd, Fn⟩ := T.F__law_is_variable
  refine ⟨fd, fn_D Fn sc__law_is_variable (fun cdv A outer s H E hr => ?_), Fn.bindsN (fun _ _ _ _ _ _ us hl => match us, hl with | [_], _ => rfl), T.g__law_is_variable, Fn.kp⟩
  have tk := takes_of (X := cxOf (L2.CX P' w) P' w K mg base ["name", "letters", "sign"] "_law_is_variable" (defScope (top 50)) (He.ga K "_law_is_variable") cdv A outer s H E) rfl rfl rfl rfl
  have hp := passes_of (X := cxOf (L2.CX P' w) P' w K mg base ["name", "letters", "sign"] "_law_is_variable" (defScope (top 50)) (He.ga K "_law_is_variable") cdv A outer s H E) rfl
  delta B__law_is_variable
  exact (dss_cons (ds_set (i := 1) sc__law_is_variable.nd rfl (by first | exact .inl rfl | exact .inr rfl) de_str) (dss_cons (ds_if (dt_w (dw_or (dt_not (dt_chain o_le v_cmp o_le v_cmp de_int (de_callB c_len n_len rfl T.b_len boot_len' (da_cons (de_var (pv 0)) da_nil)) de_int)) (dw_or (dt_cmp (o_notin (roomU hr)) v_notin (de_ix (i_ix (room1 hr)) x_ix (de_var (pv 0)) de_int (fun _ _ => rfl)) (de_var (pv 1)) rfl) (dw_or1 (dt_cmp (o_in (roomU hr)) v_in (de_var (pv 0)) (de_tup (da_cons de_str (da_cons de_str (da_cons de_str (da_cons de_str (da_cons de_str (da_cons de_str da_nil))))))) rfl))))) (dss_one (ds_ret de_bl)) dss_nil) (dss_one (ds_ret (de_cmp (o_eq (roomV hr)) v_eq (de_frz (by exact (by exact df_lc rfl sc__law_is_variable.nd (own := [("sign", 2)]) (is := [2]) (di_any (de_var (pv 0))) (by exact blkOk_by (own := [("sign", 2)]) (N := ["name", "letters", "sign"]) (sc := defScope (top 50)) (by decide +kernel)) (by decide) (fun _ _ _ _ _ => (by exact (dg_name (i := 2) sc__law_is_variable.nd rfl (by first | exact .inl rfl | exact .inr rfl)))) (fun _ _ _ _ _ => (by exact (dts_one (dt_cmp (o_notin (roomU hr)) v_notin (de_var (pv 2)) (de_op o_add v_add (de_var (pv 1)) de_str) rfl)))) (fun _ _ _ _ _ => (de_var (pv 2)))))) (de_frz (df_lst da_nil)) (nomark _))))))
/-! ### _law_right_terms -/
theorem sc__law_right_terms : FnScope ["terms", "least", "greatest", "names", "name", "factor", "k"] ["terms", "least", "greatest"] (defScope (top 51)) := ⟨rfl, rfl, rfl, by decide +kernel, rfl, by decide +kernel, by decide +kernel⟩
noncomputable def B__law_right_terms : MS := (sq (asg (frzF (lc (op1 itsA (var 0)) [4, 5] (unp 2 (consT (nam 4) (consT (nam 5) nilT))) yesB (var 4))) (nam 3)) (sq (iff' (orB (tst (op2 eqX (var 3) (frzF (opN mkL nilA)))) (tst (op2 neX (frzF (lc (opN itsR2 (consA (cst (.int 1)) (consA (opN (fn1 lenV) (consA (var 3) nilA)) nilA))) [6] (nam 6) (tst (op2 geV (op2 ixV (var 3) (op2 subV (var 6) (cst (.int 1)))) (op2 ixV (var 3) (var 6)))) (var 6))) (frzF (opN mkL nilA))))) (ret (cst (.bl false))) skp) (ret (op2 eqX (frzF (lc (op1 itsA (var 0)) [4, 5] (unp 2 (consT (nam 4) (consT (nam 5) nilT))) (orB (notB (tst (opN (callN 1 D__law_is_variable) (consA (var 4) nilA)))) (orB (tst (op2 eqX (var 5) (cst (.int 0)))) (notB (tst (chn leV leV (var 1) (var 5) (var 2)))))) (var 4))) (frzF (opN mkL nilA))))))
noncomputable def D__law_right_terms : List D → M D := fnD 7 B__law_right_terms
theorem w__law_right_terms (T : Tx P' w K mg base) : DefOk P' w K mg base 2 "_law_right_terms" ["terms", "least", "greatest"] D__law_right_terms := by
  obtain ⟨fd, Fn⟩ := T.F__law_right_terms
  refine ⟨fd, fn_D Fn sc__law_right_terms (fun cdv A outer s H E hr => ?_), Fn.bindsN (fun _ _ _ _ _ _ us hl => match us, hl with | [_, _, _], _ => rfl), T.g__law_right_terms, Fn.kp⟩
  have tk := takes_of (X := cxOf (L2.CX P' w) P' w K mg base ["terms", "least", "greatest", "names", "name", "factor", "k"] "_law_right_terms" (defScope (top 51)) (He.ga K "_law_right_terms") cdv A outer s H E) rfl rfl rfl rfl
  have hp := passes_of (X := cxOf (L2.CX P' w) P' w K mg base ["terms", "least", "greatest", "names", "name", "factor", "k"] "_law_right_terms" (defScope (top 51)) (He.ga K "_law_right_terms") cdv A outer s H E) rfl
  delta B__law_right_terms
  exact (dss_cons (ds_set (i := 3) sc__law_right_terms.nd rfl (by first | exact .inl rfl | exact .inr rfl) (de_frz (by exact (by exact df_lc rfl sc__law_right_terms.nd (own := [("name", 4), ("factor", 5)]) (is := [4, 5]) (di_any (de_var (pv 0))) (by exact blkOk_by (own := [("name", 4), ("factor", 5)]) (N := ["terms", "least", "greatest", "names", "name", "factor", "k"]) (sc := defScope (top 51)) (by decide +kernel)) (by decide) (fun _ _ _ _ _ => (by exact (dg_tup rfl (dgs_cons (dg_name (i := 4) sc__law_right_terms.nd rfl (by first | exact .inl rfl | exact .inr rfl)) (dgs_cons (dg_name (i := 5) sc__law_right_terms.nd rfl (by first | exact .inl rfl | exact .inr rfl)) dgs_nil))))) (fun _ _ _ _ _ => dts_nil) (fun _ _ _ _ _ => (de_var (pv 4))))))) (dss_cons (ds_if (dt_w (dw_or (dt_cmp (o_eq (roomV hr)) v_eq (de_var (pv 3)) (de_frz (df_lst da_nil)) (nomark _)) (dw_or1 (dt_cmp (o_ne (roomV hr)) v_ne (de_frz (by exact (by exact df_lc rfl sc__law_right_terms.nd (own := [("k", 6)]) (is := [6]) (by exact (di_rng2 rfl T.b_range (by exact (da_cons de_int (da_cons (de_callB c_len n_len rfl T.b_len boot_len' (da_cons (de_var (pv 3)) da_nil)) da_nil))))) (by exact blkOk_by (own := [("k", 6)]) (N := ["terms", "least", "greatest", "names", "name", "factor", "k"]) (sc := defScope (top 51)) (by decide +kernel)) (by decide) (fun _ _ _ _ _ => (by exact (dg_name (i := 6) sc__law_right_terms.nd rfl (by first | exact .inl rfl | exact .inr rfl)))) (fun _ _ _ _ _ => (by exact (dts_one (dt_cmp o_ge v_cmp (de_ix (i_ix (room1 hr)) x_ix (de_var (pv 3)) (de_op op_sub v_sub (de_var (pv 6)) de_int) (fun _ _ => rfl)) (de_ix (i_ix (room1 hr)) x_ix (de_var (pv 3)) (de_var (pv 6)) (fun _ _ => rfl)) (nomark _))))) (fun _ _ _ _ _ => (de_var (pv 6)))))) (de_frz (df_lst da_nil)) (nomark _))))) (dss_one (ds_ret de_bl)) dss_nil) (dss_one (ds_ret (de_cmp (o_eq (roomV hr)) v_eq (de_frz (by exact (by exact df_lc rfl sc__law_right_terms.nd (own := [("name", 4), ("factor", 5)]) (is := [4, 5]) (di_any (de_var (pv 0))) (by exact blkOk_by (own := [("name", 4), ("factor", 5)]) (N := ["terms", "least", "greatest", "names", "name", "factor", "k"]) (sc := defScope (top 51)) (by decide +kernel)) (by decide) (fun _ _ _ _ _ => (by exact (dg_tup rfl (dgs_cons (dg_name (i := 4) sc__law_right_terms.nd rfl (by first | exact .inl rfl | exact .inr rfl)) (dgs_cons (dg_name (i := 5) sc__law_right_terms.nd rfl (by first | exact .inl rfl | exact .inr rfl)) dgs_nil))))) (fun _ _ _ _ _ => (by exact (dts_one (dt_w (dw_or (dt_not (dt_val (de_callD (w__law_is_variable T) (hr.mono (by omega)) rfl takes0 (da_cons (de_var (pv 4)) da_nil)))) (dw_or (dt_cmp (o_eq (roomV hr)) v_eq (de_var (pv 5)) de_int (nomark _)) (dw_or1 (dt_not (dt_chain o_le v_cmp o_le v_cmp (de_var (pv 1)) (de_var (pv 5)) (de_var (pv 2))))))))))) (fun _ _ _ _ _ => (de_var (pv 4)))))) (de_frz (df_lst da_nil)) (nomark _))))))
/-! ### _law_right_parts -/
theorem sc__law_right_parts : FnScope ["formula", "word", "part"] ["formula"] (defScope (top 52)) := ⟨rfl, rfl, rfl, by decide +kernel, rfl, by decide +kernel, by decide +kernel⟩
noncomputable def B__law_right_parts (rec : List D → M D) : MS := (sq (asg (op2 ixV (var 0) (cst (.int 0))) (nam 1)) (sq (iff' (tst (op2 inV' (var 1) (opN mkT (consA (cst (.str "true")) (consA (cst (.str "false")) nilA))))) (ret (cst (.bl true))) skp) (sq (iff' (tst (op2 eqX (var 1) (cst (.str "least")))) (ret (andV (opN (callN 3 D__law_right_terms) (consA (op2 ixV (var 0) (cst (.int 1))) (consA (op1 negV (cst (.int 20))) (consA (cst (.int 20)) nilA)))) (chn leV leV (op1 negV (cst (.int 20))) (op2 ixV (var 0) (cst (.int 2))) (cst (.int 20))))) skp) (sq (iff' (tst (op2 eqX (var 1) (cst (.str "rest")))) (ret (andV (opN (callN 3 D__law_right_terms) (consA (op2 ixV (var 0) (cst (.int 1))) (consA (op1 negV (cst (.int 20))) (consA (cst (.int 20)) nilA)))) (andV (chn leV leV (cst (.int 2)) (op2 ixV (var 0) (cst (.int 3))) (cst (.int 20))) (chn leV ltV (cst (.int 0)) (op2 ixV (var 0) (cst (.int 2))) (op2 ixV (var 0) (cst (.int 3))))))) skp) (sq (iff' (tst (op2 notinV (var 1) (opN mkT (consA (cst (.str "not")) (consA (cst (.str "and")) (consA (cst (.str "or")) nilA)))))) (ret (cst (.bl false))) skp) (ret (op2 eqX (frzF (lc (op1 itsA (slice slV (var 0) (part (cst (.int 1))) noPart)) [2] (nam 2) (notB (tst (opN (callN 1 rec) (consA (var 2) nilA)))) (var 2))) (frzF (opN mkL nilA)))))))))
noncomputable def D__law_right_parts : Nat → List D → M D
  | 0 => fun _ => M.bad
  | k + 1 => fnD 3 (B__law_right_parts (D__law_right_parts k))
theorem w__law_right_parts (T : Tx P' w K mg base) : ∀ k : Nat, DefOk P' w K mg base (2 + k) "_law_right_parts" ["formula"] (D__law_right_parts k)
  | 0 => by
    obtain ⟨fd, Fn⟩ := T.F__law_right_parts
    exact ⟨fd, fn_bad, Fn.bindsN (fun _ _ _ _ _ _ us hl => match us, hl with | [_], _ => rfl), T.g__law_right_parts, Fn.kp⟩
  | k + 1 => by
    have ih := w__law_right_parts T k
    obtain ⟨fd, Fn⟩ := T.F__law_right_parts
    refine ⟨fd, fn_D Fn sc__law_right_parts (fun cdv A outer s H E hr => ?_), Fn.bindsN (fun _ _ _ _ _ _ us hl => match us, hl with | [_], _ => rfl), T.g__law_right_parts, Fn.kp⟩
    have tk := takes_of (X := cxOf (L2.CX P' w) P' w K mg base ["formula", "word", "part"] "_law_right_parts" (defScope (top 52)) (He.ga K "_law_right_parts") cdv A outer s H E) rfl rfl rfl rfl
    have hp := passes_of (X := cxOf (L2.CX P' w) P' w K mg base ["formula", "word", "part"] "_law_right_parts" (defScope (top 52)) (He.ga K "_law_right_parts") cdv A outer s H E) rfl
    delta B__law_right_parts
    exact (dss_cons (ds_set (i := 1) sc__law_right_parts.nd rfl (by first | exact .inl rfl | exact .inr rfl) (de_ix (i_ix (room1 hr)) x_ix (de_var (pv 0)) de_int (fun _ _ => rfl))) (dss_cons (ds_if (dt_cmp (o_in (roomU hr)) v_in (de_var (pv 1)) (de_tup (da_cons de_str (da_cons de_str da_nil))) rfl) (dss_one (ds_ret de_bl)) dss_nil) (dss_cons (ds_if (dt_cmp (o_eq (roomV hr)) v_eq (de_var (pv 1)) de_str (nomark _)) (dss_one (ds_ret (de_and (de_callD (w__law_right_terms T) (hr.mono (by show _ ≤ 2 + k; omega)) rfl tk (by exact (da_cons (de_ix (i_ix (room1 hr)) x_ix (de_var (pv 0)) de_int (fun _ _ => rfl)) (da_cons (de_un un_neg v_neg de_int) (da_cons de_int da_nil))))) (de_one (de_chain o_le v_cmp o_le v_cmp (de_un un_neg v_neg de_int) (de_ix (i_ix (room1 hr)) x_ix (de_var (pv 0)) de_int (fun _ _ => rfl)) de_int))))) dss_nil) (dss_cons (ds_if (dt_cmp (o_eq (roomV hr)) v_eq (de_var (pv 1)) de_str (nomark _)) (dss_one (ds_ret (de_and (de_callD (w__law_right_terms T) (hr.mono (by show _ ≤ 2 + k; omega)) rfl tk (by exact (da_cons (de_ix (i_ix (room1 hr)) x_ix (de_var (pv 0)) de_int (fun _ _ => rfl)) (da_cons (de_un un_neg v_neg de_int) (da_cons de_int da_nil))))) (de_and (de_chain o_le v_cmp o_le v_cmp de_int (de_ix (i_ix (room1 hr)) x_ix (de_var (pv 0)) de_int (fun _ _ => rfl)) de_int) (de_one (de_chain o_le v_cmp o_lt v_cmp de_int (de_ix (i_ix (room1 hr)) x_ix (de_var (pv 0)) de_int (fun _ _ => rfl)) (de_ix (i_ix (room1 hr)) x_ix (de_var (pv 0)) de_int (fun _ _ => rfl)))))))) dss_nil) (dss_cons (ds_if (dt_cmp (o_notin (roomU hr)) v_notin (de_var (pv 1)) (de_tup (da_cons de_str (da_cons de_str (da_cons de_str da_nil)))) rfl) (dss_one (ds_ret de_bl)) dss_nil) (dss_one (ds_ret (de_cmp (o_eq (roomV hr)) v_eq (de_frz (by exact (by exact df_lc rfl sc__law_right_parts.nd (own := [("part", 2)]) (is := [2]) (di_any (de_slice (de_var (pv 0)) (do_some de_int) do_none)) (by exact blkOk_by (own := [("part", 2)]) (N := ["formula", "word", "part"]) (sc := defScope (top 52)) (by decide +kernel)) (by decide) (fun _ _ _ _ _ => (by exact (dg_name (i := 2) sc__law_right_parts.nd rfl (by first | exact .inl rfl | exact .inr rfl)))) (fun _ _ _ _ _ => (by exact (dts_one (dt_not (dt_val (de_callD ih hr rfl takes0 (da_cons (de_var (pv 2)) da_nil))))))) (fun _ _ _ _ _ => (de_var (pv 2)))))) (de_frz (df_lst da_nil)) (nomark _)))))))))
/-! ### _law_depth -/
theorem sc__law_depth : FnScope ["formula", "part"] ["formula"] (defScope (top 49)) := ⟨rfl, rfl, rfl, by decide +kernel, rfl, by decide +kernel, by decide +kernel⟩
noncomputable def B__law_depth (rec : List D → M D) : MS := (sq (iff' (tst (op2 inV' (op2 ixV (var 0) (cst (.int 0))) (opN mkT (consA (cst (.str "not")) (consA (cst (.str "and")) (consA (cst (.str "or")) nilA)))))) (ret (op2 addV (cst (.int 1)) (opN (fn1 maxV) (consA (frzF (lc (op1 itsA (slice slV (var 0) (part (cst (.int 1))) noPart)) [1] (nam 1) yesB (opN (callN 1 rec) (consA (var 1) nilA)))) nilA)))) skp) (ret (cst (.int 1))))
noncomputable def D__law_depth : Nat → List D → M D
  | 0 => fun _ => M.bad
  | k + 1 => fnD 2 (B__law_depth (D__law_depth k))
theorem w__law_depth (T : Tx P' w K mg base) : ∀ k : Nat, DefOk P' w K mg base (0 + k) "_law_depth" ["formula"] (D__law_depth k)
  | 0 => by
    obtain ⟨fd, Fn⟩ := T.F__law_depth
    exact ⟨fd, fn_bad, Fn.bindsN (fun _ _ _ _ _ _ us hl => match us, hl with | [_], _ => rfl), T.g__law_depth, Fn.kp⟩
  | k + 1 => by
    have ih := w__law_depth T k
    obtain ⟨fd, Fn⟩ := T.F__law_depth
    refine ⟨fd, fn_D Fn sc__law_depth (fun cdv A outer s H E hr => ?_), Fn.bindsN (fun _ _ _ _ _ _ us hl => match us, hl with | [_], _ => rfl), T.g__law_depth, Fn.kp⟩
    have tk := takes_of (X := cxOf (L2.CX P' w) P' w K mg base ["formula", "part"] "_law_depth" (defScope (top 49)) (He.ga K "_law_depth") cdv A outer s H E) rfl rfl rfl rfl
    have hp := passes_of (X := cxOf (L2.CX P' w) P' w K mg base ["formula", "part"] "_law_depth" (defScope (top 49)) (He.ga K "_law_depth") cdv A outer s H E) rfl
    delta B__law_depth
    exact (dss_cons (ds_if (dt_cmp (o_in (roomU hr)) v_in (de_ix (i_ix (room1 hr)) x_ix (de_var (pv 0)) de_int (fun _ _ => rfl)) (de_tup (da_cons de_str (da_cons de_str (da_cons de_str da_nil)))) rfl) (dss_one (ds_ret (de_op o_add v_add de_int (de_callB (cr_max rfl) n_max rfl T.b_max boot_max' (by exact (da_cons (de_frz (by exact (by exact df_lc rfl sc__law_depth.nd (own := [("part", 1)]) (is := [1]) (di_any (de_slice (de_var (pv 0)) (do_some de_int) do_none)) (by exact blkOk_by (own := [("part", 1)]) (N := ["formula", "part"]) (sc := defScope (top 49)) (by decide +kernel)) (by decide) (fun _ _ _ _ _ => (by exact (dg_name (i := 1) sc__law_depth.nd rfl (by first | exact .inl rfl | exact .inr rfl)))) (fun _ _ _ _ _ => dts_nil) (fun _ _ _ _ _ => (by exact (de_callD ih hr rfl takes0 (da_cons (de_var (pv 1)) da_nil))))))) da_nil)))))) dss_nil) (dss_one (ds_ret de_int)))
/-! ### _law_vars -/
theorem sc__law_vars : FnScope ["formula", "found", "part", "name", "factor"] ["formula"] (defScope (top 46)) := ⟨rfl, rfl, rfl, by decide +kernel, rfl, by decide +kernel, by decide +kernel⟩
noncomputable def B__law_vars (rec : List D → M D) : MS := (sq (iff' (tst (op2 inV' (op2 ixV (var 0) (cst (.int 0))) (opN mkT (consA (cst (.str "least")) (consA (cst (.str "rest")) nilA))))) (ret (frzF (opN (fn1 sortedV) (consA (frzF (lc (op1 itsA (op2 ixV (var 0) (cst (.int 1)))) [3, 4] (unp 2 (consT (nam 3) (consT (nam 4) nilT))) yesB (var 3))) nilA)))) skp) (sq (asg (frzF (opN mkL nilA)) (nam 1)) (sq (iff' (tst (op2 inV' (op2 ixV (var 0) (cst (.int 0))) (opN mkT (consA (cst (.str "not")) (consA (cst (.str "and")) (consA (cst (.str "or")) nilA)))))) (for' (op1 itsA (slice slV (var 0) (part (cst (.int 1))) noPart)) (nam 2) (asg (op2 addV (var 1) (frzF (lc (op1 itsA (opN (callN 1 rec) (consA (var 2) nilA))) [3] (nam 3) (tst (op2 notinV (var 3) (var 1))) (var 3)))) (nam 1))) skp) (ret (frzF (opN (fn1 sortedV) (consA (var 1) nilA)))))))
noncomputable def D__law_vars : Nat → List D → M D
  | 0 => fun _ => M.bad
  | k + 1 => fnD 5 (B__law_vars (D__law_vars k))
theorem w__law_vars (T : Tx P' w K mg base) : ∀ k : Nat, DefOk P' w K mg base (0 + k) "_law_vars" ["formula"] (D__law_vars k)
  | 0 => by
    obtain ⟨fd, Fn⟩ := T.F__law_vars
    exact ⟨fd, fn_bad, Fn.bindsN (fun _ _ _ _ _ _ us hl => match us, hl with | [_], _ => rfl), T.g__law_vars, Fn.kp⟩
  | k + 1 => by
    have ih := w__law_vars T k
    obtain ⟨fd, Fn⟩ := T.F__law_vars
    refine ⟨fd, fn_D Fn sc__law_vars (fun cdv A outer s H E hr => ?_), Fn.bindsN (fun _ _ _ _ _ _ us hl => match us, hl with | [_], _ => rfl), T.g__law_vars, Fn.kp⟩
    have tk := takes_of (X := cxOf (L2.CX P' w) P' w K mg base ["formula", "found", "part", "name", "factor"] "_law_vars" (defScope (top 46)) (He.ga K "_law_vars") cdv A outer s H E) rfl rfl rfl rfl
    have hp := passes_of (X := cxOf (L2.CX P' w) P' w K mg base ["formula", "found", "part", "name", "factor"] "_law_vars" (defScope (top 46)) (He.ga K "_law_vars") cdv A outer s H E) rfl
    delta B__law_vars
    exact (dss_cons (ds_if (dt_cmp (o_in (roomU hr)) v_in (de_ix (i_ix (room1 hr)) x_ix (de_var (pv 0)) de_int (fun _ _ => rfl)) (de_tup (da_cons de_str (da_cons de_str da_nil))) rfl) (dss_one (ds_ret (de_frz (by exact (df_callB (c_sorted rfl) n_sorted rfl T.b_sorted boot_sorted' (by exact (da_cons (de_frz (by exact (by exact df_lc rfl sc__law_vars.nd (own := [("name", 3), ("factor", 4)]) (is := [3, 4]) (by exact (di_any (de_ix (i_ix (room1 hr)) x_ix (de_var (pv 0)) de_int (fun _ _ => rfl)))) (by exact blkOk_by (own := [("name", 3), ("factor", 4)]) (N := ["formula", "found", "part", "name", "factor"]) (sc := defScope (top 46)) (by decide +kernel)) (by decide) (fun _ _ _ _ _ => (by exact (dg_tup rfl (dgs_cons (dg_name (i := 3) sc__law_vars.nd rfl (by first | exact .inl rfl | exact .inr rfl)) (dgs_cons (dg_name (i := 4) sc__law_vars.nd rfl (by first | exact .inl rfl | exact .inr rfl)) dgs_nil))))) (fun _ _ _ _ _ => dts_nil) (fun _ _ _ _ _ => (de_var (pv 3)))))) da_nil))))))) dss_nil) (dss_cons (ds_set (i := 1) sc__law_vars.nd rfl (by first | exact .inl rfl | exact .inr rfl) (de_frz (df_lst da_nil))) (dss_cons (ds_if (dt_cmp (o_in (roomU hr)) v_in (de_ix (i_ix (room1 hr)) x_ix (de_var (pv 0)) de_int (fun _ _ => rfl)) (de_tup (da_cons de_str (da_cons de_str (da_cons de_str da_nil)))) rfl) (dss_one (ds_for hp rfl (di_any (de_slice (de_var (pv 0)) (do_some de_int) do_none)) (dg_name (i := 2) sc__law_vars.nd rfl (by first | exact .inl rfl | exact .inr rfl)) (dss_one (ds_set (i := 1) sc__law_vars.nd rfl (by first | exact .inl rfl | exact .inr rfl) (de_op o_add v_add (de_var (pv 1)) (de_frz (by exact (by exact df_lc rfl sc__law_vars.nd (own := [("name", 3)]) (is := [3]) (by exact (di_any (de_callD ih hr rfl tk (da_cons (de_var (pv 2)) da_nil)))) (by exact blkOk_by (own := [("name", 3)]) (N := ["formula", "found", "part", "name", "factor"]) (sc := defScope (top 46)) (by decide +kernel)) (by decide) (fun _ _ _ _ _ => (by exact (dg_name (i := 3) sc__law_vars.nd rfl (by first | exact .inl rfl | exact .inr rfl)))) (fun _ _ _ _ _ => (by exact (dts_one (dt_cmp (o_notin (roomU hr)) v_notin (de_var (pv 3)) (de_var (pv 1)) rfl)))) (fun _ _ _ _ _ => (de_var (pv 3))))))))))) dss_nil) (dss_one (ds_ret (de_frz (by exact (df_callB (c_sorted rfl) n_sorted rfl T.b_sorted boot_sorted' (da_cons (de_var (pv 1)) da_nil)))))))))
/-! ### _law_is_formula -/
theorem sc__law_is_formula : FnScope ["formula"] ["formula"] (defScope (top 53)) := ⟨rfl, rfl, rfl, by decide +kernel, rfl, by decide +kernel, by decide +kernel⟩
noncomputable def B__law_is_formula : MS := (ret (andV (opN (callN 1 (D__law_right_parts 20)) (consA (var 0) nilA)) (andV (op2 leV (opN (callN 1 (D__law_depth 20)) (consA (var 0) nilA)) (cst (.int 8))) (op2 leV (opN (fn1 lenV) (consA (opN (callN 1 (D__law_vars 20)) (consA (var 0) nilA)) nilA)) (cst (.int 8))))))
noncomputable def D__law_is_formula : List D → M D := fnD 1 B__law_is_formula
theorem w__law_is_formula (T : Tx P' w K mg base) : DefOk P' w K mg base 23 "_law_is_formula" ["formula"] D__law_is_formula := by
  obtain ⟨fd, Fn⟩ := T.F__law_is_formula
  refine ⟨fd, fn_D Fn sc__law_is_formula (fun cdv A outer s H E hr => ?_), Fn.bindsN (fun _ _ _ _ _ _ us hl => match us, hl with | [_], _ => rfl), T.g__law_is_formula, Fn.kp⟩
  have tk := takes_of (X := cxOf (L2.CX P' w) P' w K mg base ["formula"] "_law_is_formula" (defScope (top 53)) (He.ga K "_law_is_formula") cdv A outer s H E) rfl rfl rfl rfl
  have hp := passes_of (X := cxOf (L2.CX P' w) P' w K mg base ["formula"] "_law_is_formula" (defScope (top 53)) (He.ga K "_law_is_formula") cdv A outer s H E) rfl
  delta B__law_is_formula
  exact (dss_one (ds_ret (de_and (de_callD (w__law_right_parts T 20) (hr.mono (by omega)) rfl tk (da_cons (de_var (pv 0)) da_nil)) (de_and (de_cmp o_le v_cmp (de_callD (w__law_depth T 20) (hr.mono (by omega)) rfl tk (da_cons (de_var (pv 0)) da_nil)) de_int (nomark _)) (de_one (de_cmp o_le v_cmp (de_callB c_len n_len rfl T.b_len boot_len' (by exact (da_cons (de_callD (w__law_vars T 20) (hr.mono (by omega)) rfl tk (da_cons (de_var (pv 0)) da_nil)) da_nil))) de_int (nomark _)))))))
/-! ### _law_or_refused -/
theorem sc__law_or_refused : FnScope ["formula"] ["formula"] (defScope (top 57)) := ⟨rfl, rfl, rfl, by decide +kernel, rfl, by decide +kernel, by decide +kernel⟩
noncomputable def B__law_or_refused : MS := (sq (iff' (tst (opN (callN 1 D__law_is_formula) (consA (var 0) nilA))) (ret (var 0)) skp) (ret (opN mkT (consA (cst (.str "refused")) nilA))))
noncomputable def D__law_or_refused : List D → M D := fnD 1 B__law_or_refused
theorem w__law_or_refused (T : Tx P' w K mg base) : DefOk P' w K mg base 24 "_law_or_refused" ["formula"] D__law_or_refused := by
  obtain ⟨fd, Fn⟩ := T.F__law_or_refused
  refine ⟨fd, fn_D Fn sc__law_or_refused (fun cdv A outer s H E hr => ?_), Fn.bindsN (fun _ _ _ _ _ _ us hl => match us, hl with | [_], _ => rfl), T.g__law_or_refused, Fn.kp⟩
  have tk := takes_of (X := cxOf (L2.CX P' w) P' w K mg base ["formula"] "_law_or_refused" (defScope (top 57)) (He.ga K "_law_or_refused") cdv A outer s H E) rfl rfl rfl rfl
  have hp := passes_of (X := cxOf (L2.CX P' w) P' w K mg base ["formula"] "_law_or_refused" (defScope (top 57)) (He.ga K "_law_or_refused") cdv A outer s H E) rfl
  delta B__law_or_refused
  exact (dss_cons (ds_if (dt_val (de_callD (w__law_is_formula T) (hr.mono (by omega)) rfl tk (da_cons (de_var (pv 0)) da_nil))) (dss_one (ds_ret (de_var (pv 0)))) dss_nil) (dss_one (ds_ret (de_tup (da_cons de_str da_nil)))))
/-! ### _law_opposite -/
theorem sc__law_opposite : FnScope ["formula", "word", "name", "factor"] ["formula"] (defScope (top 55)) := ⟨rfl, rfl, rfl, by decide +kernel, rfl, by decide +kernel, by decide +kernel⟩
noncomputable def B__law_opposite (rec : List D → M D) : MS := (sq (asg (op2 ixV (var 0) (cst (.int 0))) (nam 1)) (sq (iff' (tst (op2 eqX (var 1) (cst (.str "least")))) (ret (opN mkT (consA (cst (.str "least")) (consA (opN (fn1 tupleV) (consA (frzF (lc (op1 itsA (op2 ixV (var 0) (cst (.int 1)))) [2, 3] (unp 2 (consT (nam 2) (consT (nam 3) nilT))) yesB (opN mkT (consA (var 2) (consA (op1 negV (var 3)) nilA))))) nilA)) (consA (op2 subV (cst (.int 1)) (op2 ixV (var 0) (cst (.int 2)))) nilA))))) skp) (sq (iff' (tst (op2 eqX (var 1) (cst (.str "rest")))) (ret (opN mkT (consA (cst (.str "not")) (consA (var 0) nilA)))) skp) (sq (iff' (tst (op2 eqX (var 1) (cst (.str "not")))) (ret (op2 ixV (var 0) (cst (.int 1)))) skp) (sq (iff' (tst (op2 inV' (var 1) (opN mkT (consA (cst (.str "and")) (consA (cst (.str "or")) nilA))))) (ret (opN mkT (consA (op2 ixV (frzF (opN mkL (consA (cst (.str "and")) (consA (cst (.str "or")) nilA)))) (opN (fn1 intV) (consA (op2 eqX (var 1) (cst (.str "and"))) nilA))) (consA (opN (callN 1 rec) (consA (op2 ixV (var 0) (cst (.int 1))) nilA)) (consA (opN (callN 1 rec) (consA (op2 ixV (var 0) (cst (.int 2))) nilA)) nilA))))) skp) (ret (op2 ixV (frzF (opN mkL (consA (opN mkT (consA (cst (.str "false")) nilA)) (consA (opN mkT (consA (cst (.str "true")) nilA)) nilA)))) (opN (fn1 intV) (consA (op2 eqX (var 1) (cst (.str "false"))) nilA)))))))))
noncomputable def D__law_opposite : Nat → List D → M D
  | 0 => fun _ => M.bad
  | k + 1 => fnD 4 (B__law_opposite (D__law_opposite k))
theorem w__law_opposite (T : Tx P' w K mg base) : ∀ k : Nat, DefOk P' w K mg base (0 + k) "_law_opposite" ["formula"] (D__law_opposite k)
  | 0 => by
    obtain ⟨fd, Fn⟩ := T.F__law_opposite
    exact ⟨fd, fn_bad, Fn.bindsN (fun _ _ _ _ _ _ us hl => match us, hl with | [_], _ => rfl), T.g__law_opposite, Fn.kp⟩
  | k + 1 => by
    have ih := w__law_opposite T k
    obtain ⟨fd, Fn⟩ := T.F__law_opposite
    refine ⟨fd, fn_D Fn sc__law_opposite (fun cdv A outer s H E hr => ?_), Fn.bindsN (fun _ _ _ _ _ _ us hl => match us, hl with | [_], _ => rfl), T.g__law_opposite, Fn.kp⟩
    have tk := takes_of (X := cxOf (L2.CX P' w) P' w K mg base ["formula", "word", "name", "factor"] "_law_opposite" (defScope (top 55)) (He.ga K "_law_opposite") cdv A outer s H E) rfl rfl rfl rfl
    have hp := passes_of (X := cxOf (L2.CX P' w) P' w K mg base ["formula", "word", "name", "factor"] "_law_opposite" (defScope (top 55)) (He.ga K "_law_opposite") cdv A outer s H E) rfl
    delta B__law_opposite
    exact (dss_cons (ds_set (i := 1) sc__law_opposite.nd rfl (by first | exact .inl rfl | exact .inr rfl) (de_ix (i_ix (room1 hr)) x_ix (de_var (pv 0)) de_int (fun _ _ => rfl))) (dss_cons (ds_if (dt_cmp (o_eq (roomV hr)) v_eq (de_var (pv 1)) de_str (nomark _)) (dss_one (ds_ret (de_tup (by exact (da_cons de_str (da_cons (de_callTy call_tuple_of n_tuple rfl T.b_tuple boot_tuple' (by exact (da_cons (de_frz (by exact (by exact df_lc rfl sc__law_opposite.nd (own := [("name", 2), ("factor", 3)]) (is := [2, 3]) (by exact (di_any (de_ix (i_ix (room1 hr)) x_ix (de_var (pv 0)) de_int (fun _ _ => rfl)))) (by exact blkOk_by (own := [("name", 2), ("factor", 3)]) (N := ["formula", "word", "name", "factor"]) (sc := defScope (top 55)) (by decide +kernel)) (by decide) (fun _ _ _ _ _ => (by exact (dg_tup rfl (dgs_cons (dg_name (i := 2) sc__law_opposite.nd rfl (by first | exact .inl rfl | exact .inr rfl)) (dgs_cons (dg_name (i := 3) sc__law_opposite.nd rfl (by first | exact .inl rfl | exact .inr rfl)) dgs_nil))))) (fun _ _ _ _ _ => dts_nil) (fun _ _ _ _ _ => (de_tup (da_cons (de_var (pv 2)) (da_cons (de_un un_neg v_neg (de_var (pv 3))) da_nil))))))) da_nil))) (da_cons (de_op op_sub v_sub de_int (de_ix (i_ix (room1 hr)) x_ix (de_var (pv 0)) de_int (fun _ _ => rfl))) da_nil))))))) dss_nil) (dss_cons (ds_if (dt_cmp (o_eq (roomV hr)) v_eq (de_var (pv 1)) de_str (nomark _)) (dss_one (ds_ret (de_tup (da_cons de_str (da_cons (de_var (pv 0)) da_nil))))) dss_nil) (dss_cons (ds_if (dt_cmp (o_eq (roomV hr)) v_eq (de_var (pv 1)) de_str (nomark _)) (dss_one (ds_ret (de_ix (i_ix (room1 hr)) x_ix (de_var (pv 0)) de_int (fun _ _ => rfl)))) dss_nil) (dss_cons (ds_if (dt_cmp (o_in (roomU hr)) v_in (de_var (pv 1)) (de_tup (da_cons de_str (da_cons de_str da_nil))) rfl) (dss_one (ds_ret (de_tup (by exact (da_cons (de_ix (i_ix (room1 hr)) x_ix (de_frz (df_lst (da_cons de_str (da_cons de_str da_nil)))) (de_callTy c_int n_int rfl T.b_int boot_int' (da_cons (de_cmp (o_eq (roomV hr)) v_eq (de_var (pv 1)) de_str (nomark _)) da_nil)) (fun _ _ => rfl)) (da_cons (de_callD ih hr rfl tk (by exact (da_cons (de_ix (i_ix (room1 hr)) x_ix (de_var (pv 0)) de_int (fun _ _ => rfl)) da_nil))) (da_cons (de_callD ih hr rfl tk (by exact (da_cons (de_ix (i_ix (room1 hr)) x_ix (de_var (pv 0)) de_int (fun _ _ => rfl)) da_nil))) da_nil))))))) dss_nil) (dss_one (ds_ret (de_ix (i_ix (room1 hr)) x_ix (de_frz (df_lst (da_cons (de_tup (da_cons de_str da_nil)) (da_cons (de_tup (da_cons de_str da_nil)) da_nil)))) (de_callTy c_int n_int rfl T.b_int boot_int' (da_cons (de_cmp (o_eq (roomV hr)) v_eq (de_var (pv 1)) de_str (nomark _)) da_nil)) (fun _ _ => rfl)))))))))
/-! ### law -/
theorem sc_law : FnScope ["script", "pool", "turn", "formula", "found", "k"] ["script"] (defScope (top 60)) := ⟨rfl, rfl, rfl, by decide +kernel, rfl, by decide +kernel, by decide +kernel⟩
noncomputable def B_law : MS := (sq (asg (opN (callN 1 D__law_pool) (consA (var 0) nilA)) (nam 1)) (sq (for' (opN itsR1 (consA (cst (.int 6)) nilA)) (nam 2) (sq (asg (opN (callN 5 D__law_drawn_formula) (consA (var 1) (consA (var 0) (consA (op2 modV (var 2) (cst (.int 4))) (consA (op2 addV (cst (.int 1)) (opN (callN 2 D__law_pick) (consA (var 1) (consA (cst (.int 6)) nilA)))) (consA (op2 addV (cst (.int 1)) (opN (callN 2 D__law_pick) (consA (var 1) (consA (cst (.int 20)) nilA)))) nilA)))))) (nam 3)) (sq (iff' (tst (op2 gtV (var 2) (cst (.int 3)))) (asg (opN mkT (consA (cst (.str "least")) (consA (opN mkT (consA (opN mkT (consA (cst (.str "x")) (consA (op2 addV (cst (.int 1)) (opN (callN 2 D__law_pick) (consA (var 1) (consA (cst (.int 20)) nilA)))) nilA))) nilA)) (consA (op2 subV (opN (callN 2 D__law_pick) (consA (var 1) (consA (cst (.int 3)) nilA))) (cst (.int 20))) nilA)))) (nam 3)) skp) (sq (iff' (tst (op2 eqX (var 2) (cst (.int 3)))) (sq (asg (opN mkT (consA (cst (.str "rest")) (consA (opN mkT (consA (opN mkT (consA (cst (.str "x")) (consA (cst (.int 1)) nilA))) nilA)) (consA (cst (.int 0)) (consA (op2 addV (cst (.int 2)) (opN (callN 2 D__law_pick) (consA (var 1) (consA (cst (.int 3)) nilA)))) nilA))))) (nam 3)) (for' (opN itsR1 (consA (opN (callN 2 D__law_pick) (consA (var 1) (consA (cst (.int 8)) nilA))) nilA)) (nam 5) (asg (op2 ixV (frzF (opN mkL (consA (opN mkT (consA (cst (.str "and")) (consA (var 3) (consA (opN mkT (consA (cst (.str "true")) nilA)) nilA)))) (consA (opN mkT (consA (cst (.str "or")) (consA (opN mkT (consA (cst (.str "false")) nilA)) (consA (var 3) nilA)))) nilA)))) (opN (callN 2 D__law_pick) (consA (var 1) (consA (cst (.int 2)) nilA)))) (nam 3)))) skp) (sq (asg (opN (callN 3 D__law_told_rewritten) (consA (var 3) (consA (cst (.int 0)) (consA newK nilA)))) (nam 4)) (sq (iff' (notB (tst (opN (callN 2 (D__law_plainly 20)) (consA (var 4) (consA (opN (callN 1 D__law_or_refused) (consA (opN (callN 1 (D__law_opposite 20)) (consA (var 3) nilA)) nilA)) nilA))))) (ret (cst (.bl false))) skp) (iff' (andB (notB (tst (opN (callN 2 (D__law_equal 20)) (consA (var 4) (consA (opN mkT (consA (cst (.str "refused")) nilA)) nilA))))) (andB (tst (opN (callN 2 (D__law_equal 20)) (consA (opN (callN 3 D__law_told_rewritten) (consA (var 4) (consA (cst (.int 0)) (consA newK nilA)))) (consA (opN mkT (consA (cst (.str "refused")) nilA)) nilA)))) (tst (op2 eqX (op2 ixV (var 3) (cst (.int 0))) (cst (.str "least")))))) (ret (cst (.bl false))) skp))))))) (ret (cst (.bl true)))))
noncomputable def D_law : List D → M D := fnD 6 B_law
theorem wf_law (T : Tx P' w K mg base) {fd : FuncData} (Fn : FunD K "law" "law" (defArgs (top 60)) (defBody (top 60)) (defScope (top 60)) [] [] (He.ga K "law") fd) : FnOk P' w K mg base (L2.CX P' w) 28 (He.ga K "law") fd ["script"] (spD K 1 D_law) := by
  refine fn_D Fn sc_law (fun cdv A outer s H E hr => ?_)
  have tk := takes_of (X := cxOf (L2.CX P' w) P' w K mg base ["script", "pool", "turn", "formula", "found", "k"] "law" (defScope (top 60)) (He.ga K "law") cdv A outer s H E) rfl rfl rfl rfl
  have hp := passes_of (X := cxOf (L2.CX P' w) P' w K mg base ["script", "pool", "turn", "formula", "found", "k"] "law" (defScope (top 60)) (He.ga K "law") cdv A outer s H E) rfl
  delta B_law
  exact (dss_cons (ds_set (i := 1) sc_law.nd rfl (by first | exact .inl rfl | exact .inr rfl) (de_callD (w__law_pool T) (hr.mono (by omega)) rfl tk (da_cons (de_var (pv 0)) da_nil))) (dss_cons (ds_for hp rfl (di_rng1 rfl T.b_range (da_cons de_int da_nil)) (dg_name (i := 2) sc_law.nd rfl (by first | exact .inl rfl | exact .inr rfl)) (dss_cons (ds_set (i := 3) sc_law.nd rfl (by first | exact .inl rfl | exact .inr rfl) (de_callD (w__law_drawn_formula T) (hr.mono (by omega)) rfl tk (by exact (da_cons (de_var (pv 1)) (da_cons (de_var (pv 0)) (da_cons (de_op o_mod v_mod (de_var (pv 2)) de_int) (da_cons (de_op o_add v_add de_int (de_callD (w__law_pick T) (hr.mono (by omega)) rfl tk (da_cons (de_var (pv 1)) (da_cons de_int da_nil)))) (da_cons (de_op o_add v_add de_int (de_callD (w__law_pick T) (hr.mono (by omega)) rfl tk (da_cons (de_var (pv 1)) (da_cons de_int da_nil)))) da_nil)))))))) (dss_cons (ds_if (dt_cmp o_gt v_cmp (de_var (pv 2)) de_int (nomark _)) (dss_one (ds_set (i := 3) sc_law.nd rfl (by first | exact .inl rfl | exact .inr rfl) (de_tup (by exact (da_cons de_str (da_cons (de_tup (by exact (da_cons (de_tup (by exact (da_cons de_str (da_cons (de_op o_add v_add de_int (de_callD (w__law_pick T) (hr.mono (by omega)) rfl tk (da_cons (de_var (pv 1)) (da_cons de_int da_nil)))) da_nil)))) da_nil))) (da_cons (de_op op_sub v_sub (de_callD (w__law_pick T) (hr.mono (by omega)) rfl tk (da_cons (de_var (pv 1)) (da_cons de_int da_nil))) de_int) da_nil))))))) dss_nil) (dss_cons (ds_if (dt_cmp (o_eq (roomV hr)) v_eq (de_var (pv 2)) de_int (nomark _)) (dss_cons (ds_set (i := 3) sc_law.nd rfl (by first | exact .inl rfl | exact .inr rfl) (de_tup (by exact (da_cons de_str (da_cons (de_tup (da_cons (de_tup (da_cons de_str (da_cons de_int da_nil))) da_nil)) (da_cons de_int (da_cons (de_op o_add v_add de_int (de_callD (w__law_pick T) (hr.mono (by omega)) rfl tk (da_cons (de_var (pv 1)) (da_cons de_int da_nil)))) da_nil))))))) (dss_one (ds_for hp rfl (di_rng1 rfl T.b_range (by exact (da_cons (de_callD (w__law_pick T) (hr.mono (by omega)) rfl tk (da_cons (de_var (pv 1)) (da_cons de_int da_nil))) da_nil))) (dg_name (i := 5) sc_law.nd rfl (by first | exact .inl rfl | exact .inr rfl)) (dss_one (ds_set (i := 3) sc_law.nd rfl (by first | exact .inl rfl | exact .inr rfl) (de_ix (i_ix (room1 hr)) x_ix (de_frz (df_lst (da_cons (de_tup (da_cons de_str (da_cons (de_var (pv 3)) (da_cons (de_tup (da_cons de_str da_nil)) da_nil)))) (da_cons (de_tup (da_cons de_str (da_cons (de_tup (da_cons de_str da_nil)) (da_cons (de_var (pv 3)) da_nil)))) da_nil)))) (de_callD (w__law_pick T) (hr.mono (by omega)) rfl tk (da_cons (de_var (pv 1)) (da_cons de_int da_nil))) (fun _ _ => rfl))))))) dss_nil) (dss_cons (ds_set (i := 4) sc_law.nd rfl (by first | exact .inl rfl | exact .inr rfl) (de_callD (w__law_told_rewritten T) (hr.mono (by omega)) rfl tk (da_cons (de_var (pv 3)) (da_cons de_int (da_cons de_newK da_nil))))) (dss_cons (ds_if (dt_not (dt_val (de_callD (w__law_plainly T 20) (hr.mono (by omega)) rfl tk (by exact (da_cons (de_var (pv 4)) (da_cons (de_callD (w__law_or_refused T) (hr.mono (by omega)) rfl tk (by exact (da_cons (de_callD (w__law_opposite T 20) (hr.mono (by omega)) rfl tk (da_cons (de_var (pv 3)) da_nil)) da_nil))) da_nil)))))) (dss_one (ds_ret de_bl)) dss_nil) (dss_one (ds_if (dt_w (dw_and (dt_not (dt_val (de_callD (w__law_equal T 20) (hr.mono (by omega)) rfl tk (da_cons (de_var (pv 4)) (da_cons (de_tup (da_cons de_str da_nil)) da_nil))))) (dw_and (dt_val (de_callD (w__law_equal T 20) (hr.mono (by omega)) rfl tk (by exact (da_cons (de_callD (w__law_told_rewritten T) (hr.mono (by omega)) rfl tk (da_cons (de_var (pv 4)) (da_cons de_int (da_cons de_newK da_nil)))) (da_cons (de_tup (da_cons de_str da_nil)) da_nil))))) (dw_and1 (dt_cmp (o_eq (roomV hr)) v_eq (de_ix (i_ix (room1 hr)) x_ix (de_var (pv 3)) de_int (fun _ _ => rfl)) de_str (nomark _)))))) (dss_one (ds_ret de_bl)) dss_nil)))))))) (dss_one (ds_ret de_bl))))
end
end DL
/-! DLm: what the plain functions give, step by step (for simp). -/
namespace DL
open PySem PySem.Spec
open PyProof.Rows L2
/-! ### written texts -/
theorem ofString_inj {a b : String} : (Str.ofString a = Str.ofString b) = (a = b) := by
  refine propext ⟨fun h => ?_, fun h => by rw [h]⟩
  rw [Str.ofString_eq_toList, Str.ofString_eq_toList] at h
  have h2 : a.toList.map Char.toNat = b.toList.map Char.toNat := by
    injection h with h
    simpa using congrArg Array.toList h
  have h3 : a.toList = b.toList := by
    have inj : ∀ l m : List Char, l.map Char.toNat = m.map Char.toNat → l = m := fun l => by
      induction l with
      | nil =>
        intro m e
        cases m with
        | nil => rfl
        | cons y m => cases e
      | cons x l ih =>
        intro m e
        cases m with
        | nil => cases e
        | cons y m =>
          injection e with e1 e2
          rw [Char.toNat_inj.mp e1, ih m e2]
    exact inj _ _ h2
  exact String.ext h3
@[simp] theorem str_eq (a b : String) : (Str.ofString a = Str.ofString b) ↔ a = b := by rw [ofString_inj]
@[simp] theorem str_beq (a b : String) : (Str.ofString a == Str.ofString b) = (a == b) := by
  rw [Bool.eq_iff_iff]; simp
@[simp] theorem strOk_lit (a : String) : PyData.strOk (Str.ofString a) = true := by
  rw [Str.ofString_eq_toList]
  unfold PyData.strOk
  rw [Array.all_eq_true_iff_forall_mem]
  intro x hx
  simp only [List.mem_toArray, List.mem_map] at hx
  obtain ⟨c, _, rfl⟩ := hx
  have := c.valid
  simp only [decide_eq_true_eq]
  rcases this with h | h
  · exact Nat.lt_trans h (by decide)
  · exact h.2
@[simp] theorem str_len (a : String) : (Str.ofString a).length = a.toList.length := by
  rw [Str.ofString_eq_toList]; simp [Str.length]
@[simp] theorem str_app (a b : String) : Str.ofString a ++ Str.ofString b = Str.ofString (a ++ b) := by
  rw [Str.ofString_eq_toList, Str.ofString_eq_toList, Str.ofString_eq_toList]
  show Str.mk _ = _
  simp
@[simp] theorem str_cps (a : String) : (Str.ofString a).cps.toList = a.toList.map Char.toNat := by
  rw [Str.ofString_eq_toList]
/-! ### names, constants, arguments -/
section
variable {α β : Type} {S : Sl} {os : List O}
def varK (o : Option (Option D)) : M D := fun os => match o with
  | some (some d) => .ok d os
  | _ => .bad
@[simp] theorem e_var (i : Nat) : var i S os = varK S[i]? os := (rfl)
@[simp] theorem k_var (d : D) : varK (some (some d)) os = .ok d os := (rfl)
@[simp] theorem e_cst (p : P) : cst p S os = .ok (.p p) os := (rfl)
@[simp] theorem e_op1 (g : D → M α) (fa : Sl → M D) : op1 g fa S os = (fa S os).bind g := (rfl)
def op2A (g : D → D → M α) (fb : Sl → M D) (S : Sl) (d : D) : M α := fun os => (fb S os).bind (g d)
@[simp] theorem e_op2 (g : D → D → M α) (fa fb : Sl → M D) : op2 g fa fb S os = (fa S os).bind (op2A g fb S) := (rfl)
@[simp] theorem k_op2 (g : D → D → M α) (fb : Sl → M D) (d : D) : op2A g fb S d os = (fb S os).bind (g d) := (rfl)
@[simp] theorem e_opN (g : List D → M α) (fa : Sl → M (List D)) : opN g fa S os = (fa S os).bind g := (rfl)
@[simp] theorem e_nilA : nilA S os = .ok [] os := (rfl)
def consK (d : D) (ds : List D) : M (List D) := fun os => .ok (d :: ds) os
def consJ (fr : Sl → M (List D)) (S : Sl) (d : D) : M (List D) := fun os => (fr S os).bind (consK d)
@[simp] theorem e_consA (fa : Sl → M D) (fr : Sl → M (List D)) : consA fa fr S os = (fa S os).bind (consJ fr S) := (rfl)
@[simp] theorem k_consJ (fr : Sl → M (List D)) (d : D) : consJ fr S d os = (fr S os).bind (consK d) := (rfl)
@[simp] theorem k_consK (d : D) (ds : List D) : consK d ds os = .ok (d :: ds) os := (rfl)
def frzK (xs : List P) : M D := fun os => .ok (.p (.lst xs)) os
def ownK (xs : List P) : M D := fun os => .ok (.own os.length) (os ++ [.lst xs])
@[simp] theorem e_frz (m : M (List P)) : frz m os = (m os).bind frzK := (rfl)
@[simp] theorem k_frz (xs : List P) : frzK xs os = .ok (.p (.lst xs)) os := (rfl)
@[simp] theorem e_ownL (m : M (List P)) : ownL m os = (m os).bind ownK := (rfl)
@[simp] theorem k_own (xs : List P) : ownK xs os = .ok (.own os.length) (os ++ [.lst xs]) := (rfl)
@[simp] theorem e_newK : newK S os = .ok (.own os.length) (os ++ [.dK []]) := (rfl)
@[simp] theorem e_newT : newT S os = .ok (.own os.length) (os ++ [.dT []]) := (rfl)
@[simp] theorem e_mkT (ds : List D) : mkT ds os = match plain ds with
  | some xs => if xs.length ≤ sizeLine then .ok (.p (.tup xs)) os else .bad
  | none => .bad := (rfl)
@[simp] theorem e_mkL (ds : List D) : mkL ds os = match plain ds with
  | some xs => if xs.length ≤ sizeLine then .ok xs os else .bad
  | none => .bad := (rfl)
@[simp] theorem plain_nil : plain [] = some [] := (rfl)
theorem plain_ps : ∀ xs : List P, plain (xs.map D.p) = some xs
  | [] => rfl
  | x :: xs => by rw [List.map_cons]; unfold plain; rw [plain_ps xs]
@[simp] theorem plain_cons (x : P) (ds : List D) : plain (.p x :: ds) = (plain ds).map (x :: ·) := by
  show (match plain ds with
    | some xs => some (x :: xs)
    | none => none) = _
  cases plain ds <;> rfl
/-! ### tests -/
@[simp] theorem e_tst (f : Sl → M D) : tst f S os = (f S os).bind truth1 := (rfl)
@[simp] theorem k_truth (b : Bool) : truth1 (.p (.bl b)) os = .ok b os := (rfl)
def andJ (g : Sl → M Bool) (S : Sl) (b : Bool) : M Bool := fun os => if b = true then g S os else .ok false os
def orJ (g : Sl → M Bool) (S : Sl) (b : Bool) : M Bool := fun os => if b = true then .ok true os else g S os
def notJ (b : Bool) : M Bool := fun os => .ok (!b) os
@[simp] theorem e_andB (f g : Sl → M Bool) : andB f g S os = (f S os).bind (andJ g S) := by
  unfold andB; congr 1; funext b os; cases b <;> rfl
@[simp] theorem e_orB (f g : Sl → M Bool) : orB f g S os = (f S os).bind (orJ g S) := by
  unfold orB; congr 1; funext b os; cases b <;> rfl
@[simp] theorem e_notB (f : Sl → M Bool) : notB f S os = (f S os).bind notJ := (rfl)
@[simp] theorem k_andJ (g : Sl → M Bool) (b : Bool) : andJ g S b os = if b = true then g S os else .ok false os := (rfl)
@[simp] theorem k_orJ (g : Sl → M Bool) (b : Bool) : orJ g S b os = if b = true then .ok true os else g S os := (rfl)
@[simp] theorem k_notJ (b : Bool) : notJ b os = .ok (!b) os := (rfl)
def blJ (g : Sl → M D) (S : Sl) (x : Bool) (d : D) : M D := fun os => match d with
  | .p (.bl b) => if b = x then .ok (.p (.bl b)) os else g S os
  | _ => .bad
@[simp] theorem e_andV (f g : Sl → M D) : andV f g S os = (f S os).bind (blJ g S false) := by
  unfold andV; congr 1; funext d os
  match d with
  | .p (.bl true) => rfl
  | .p (.bl false) => rfl
  | .p .non | .p (.int _) | .p (.str _) | .p (.tup _) | .p (.lst _) | .p (.scr _) | .p (.ctup _) | .p (.dK _) | .p (.dT _) | .p (.ins _ _) | .own _ => rfl
@[simp] theorem e_orV (f g : Sl → M D) : orV f g S os = (f S os).bind (blJ g S true) := by
  unfold orV; congr 1; funext d os
  match d with
  | .p (.bl true) => rfl
  | .p (.bl false) => rfl
  | .p .non | .p (.int _) | .p (.str _) | .p (.tup _) | .p (.lst _) | .p (.scr _) | .p (.ctup _) | .p (.dK _) | .p (.dT _) | .p (.ins _ _) | .own _ => rfl
@[simp] theorem k_blJ (g : Sl → M D) (x b : Bool) : blJ g S x (.p (.bl b)) os = if b = x then .ok (.p (.bl b)) os else g S os := (rfl)
@[simp] theorem e_notV (b : Bool) : notV (.p (.bl b)) os = .ok (.p (.bl (!b))) os := (rfl)
def ifJ (f g : Sl → M α) (S : Sl) (b : Bool) : M α := fun os => if b = true then f S os else g S os
@[simp] theorem e_ifV (c : Sl → M Bool) (f g : Sl → M D) : ifV c f g S os = (c S os).bind (ifJ f g S) := by
  unfold ifV; congr 1; funext b os; cases b <;> rfl
@[simp] theorem e_iff (c : Sl → M Bool) (f g : MS) : iff' c f g S os = (c S os).bind (ifJ f g S) := by
  unfold iff'; congr 1; funext b os; cases b <;> rfl
@[simp] theorem k_ifJ (f g : Sl → M α) (b : Bool) : ifJ f g S b os = if b = true then f S os else g S os := (rfl)
/-- merged where nothing else is done -/
@[simp] theorem ite_okB (c : Prop) [Decidable c] (a b : Bool) : (if c then (Res.ok a os : Res Bool) else .ok b os) = .ok (if c then a else b) os := by split <;> rfl
@[simp] theorem ite_okD (c : Prop) [Decidable c] (a b : Bool) : (if c then (Res.ok (D.p (.bl a)) os : Res D) else .ok (.p (.bl b)) os) = .ok (.p (.bl (if c then a else b))) os := by split <;> rfl
def chnI (g' : D → D → M D) (fc : Sl → M D) (S : Sl) (e : D) (z : D) : M D := fun os => match z with
  | .p (.bl b) => if b = true then (fc S os).bind (g' e) else .ok (.p (.bl false)) os
  | _ => .bad
def chnJ (g g' : D → D → M D) (fc : Sl → M D) (S : Sl) (d e : D) : M D := fun os => (g d e os).bind (chnI g' fc S e)
def chnK (g g' : D → D → M D) (fb fc : Sl → M D) (S : Sl) (d : D) : M D := fun os => (fb S os).bind (chnJ g g' fc S d)
@[simp] theorem e_chn (g g' : D → D → M D) (fa fb fc : Sl → M D) : chn g g' fa fb fc S os = (fa S os).bind (chnK g g' fb fc S) := by
  have e : ∀ e : D, (fun (z : D) (os : List O) => (match z with
    | .p (.bl true) => (fc S os).bind fun h => g' e h
    | .p (.bl false) => Res.ok (D.p (.bl false)) os
    | _ => .bad)) = chnI g' fc S e := fun e => by
    funext z os
    match z with
    | .p (.bl true) => rfl
    | .p (.bl false) => rfl
    | .p .non | .p (.int _) | .p (.str _) | .p (.tup _) | .p (.lst _) | .p (.scr _) | .p (.ctup _) | .p (.dK _) | .p (.dT _) | .p (.ins _ _) | .own _ => rfl
  show (fa S os).bind (fun d os => (fb S os).bind fun e os => (g d e os).bind fun (z : D) (os : List O) => (match z with
    | .p (.bl true) => (fc S os).bind fun h => g' e h
    | .p (.bl false) => Res.ok (D.p (.bl false)) os
    | _ => .bad)) = _
  congr 1
  funext d os
  show (fb S os).bind (fun e os => (g d e os).bind _) = (fb S os).bind (chnJ g g' fc S d)
  congr 1
  funext e' os
  show (g d e' os).bind _ = (g d e' os).bind (chnI g' fc S e')
  rw [e e']
@[simp] theorem k_chnK (g g' : D → D → M D) (fb fc : Sl → M D) (d : D) : chnK g g' fb fc S d os = (fb S os).bind (chnJ g g' fc S d) := (rfl)
@[simp] theorem k_chnJ (g g' : D → D → M D) (fc : Sl → M D) (d e : D) : chnJ g g' fc S d e os = (g d e os).bind (chnI g' fc S e) := (rfl)
@[simp] theorem k_chnI (g' : D → D → M D) (fc : Sl → M D) (e : D) (b : Bool) : chnI g' fc S e (.p (.bl b)) os = if b = true then (fc S os).bind (g' e) else .ok (.p (.bl false)) os := (rfl)
/-! ### statements -/
@[simp] theorem e_skp : skp S os = .ok (.nx S) os := (rfl)
def sqJ (g : MS) (fl : Fl) : M Fl := fun os => match fl with
  | .nx S' => g S' os
  | fl => .ok fl os
@[simp] theorem e_sq (f g : MS) : sq f g S os = (f S os).bind (sqJ g) := (rfl)
@[simp] theorem k_sq (g : MS) (S' : Sl) : sqJ g (.nx S') os = g S' os := (rfl)
@[simp] theorem k_sqR (g : MS) (d : D) : sqJ g (.rt d) os = .ok (.rt d) os := (rfl)
@[simp] theorem k_sqB (g : MS) (S' : Sl) : sqJ g (.bk S') os = .ok (.bk S') os := (rfl)
@[simp] theorem k_sqC (g : MS) (S' : Sl) : sqJ g (.ct S') os = .ok (.ct S') os := (rfl)
@[simp] theorem e_brk : brk' S os = .ok (.bk S) os := (rfl)
@[simp] theorem e_cnt : cnt' S os = .ok (.ct S) os := (rfl)
def drpJ (S : Sl) (d : D) : M Fl := fun os => .ok (.nx S) os
def retJ (d : D) : M Fl := fun os => .ok (.rt d) os
@[simp] theorem e_drp (f : Sl → M D) : drp f S os = (f S os).bind (drpJ S) := (rfl)
@[simp] theorem k_drp (d : D) : drpJ S d os = .ok (.nx S) os := (rfl)
@[simp] theorem e_ret (f : Sl → M D) : ret f S os = (f S os).bind retJ := (rfl)
@[simp] theorem k_ret (d : D) : retJ d os = .ok (.rt d) os := (rfl)
def asgK (o : Option Sl) : M Fl := fun os => match o with
  | some S' => .ok (.nx S') os
  | none => .bad
def asgJ (g : Tgt) (S : Sl) (d : D) : M Fl := fun os => asgK (g d S) os
@[simp] theorem e_asg (f : Sl → M D) (g : Tgt) : asg f g S os = (f S os).bind (asgJ g S) := by
  unfold asg; congr 1
@[simp] theorem k_asgJ (g : Tgt) (d : D) : asgJ g S d os = asgK (g d S) os := (rfl)
@[simp] theorem k_asg (S' : Sl) : asgK (some S') os = .ok (.nx S') os := (rfl)
@[simp] theorem e_nam (i : Nat) (d : D) : nam i d S = some (S.set i (some d)) := (rfl)
@[simp] theorem e_nilT : nilT [] S = some S := (rfl)
@[simp] theorem e_consT (g : Tgt) (r : Tgts) (p : P) (ps : List P) : consT g r (p :: ps) S = (g (.p p) S).bind (r ps) := (rfl)
@[simp] theorem e_unpT (n : Nat) (r : Tgts) (xs : List P) : unp n r (.p (.tup xs)) S = if xs.length = n then r xs S else none := (rfl)
@[simp] theorem e_unpL (n : Nat) (r : Tgts) (xs : List P) : unp n r (.p (.lst xs)) S = if xs.length = n then r xs S else none := (rfl)
def asgLJ (i : Nat) (S : Sl) (d : D) : M Fl := fun os => .ok (.nx (S.set i (some d))) os
@[simp] theorem e_asgL (r : M (List P) → M D) (f : Sl → M (List P)) (i : Nat) : asgL r f i S os = (r (f S) os).bind (asgLJ i S) := (rfl)
@[simp] theorem k_asgL (i : Nat) (d : D) : asgLJ i S d os = .ok (.nx (S.set i (some d))) os := (rfl)
def augK (i : Nat) (S : Sl) (z : D) : M Fl := fun os => .ok (.nx (S.set i (some z))) os
def augJ (i : Nat) (h : D → D → M D) (S : Sl) (d e : D) : M Fl := fun os => (h d e os).bind (augK i S)
def augI (i : Nat) (h : D → D → M D) (f : Sl → M D) (S : Sl) (o : Option (Option D)) : M Fl := fun os => match o with
  | some (some d) => (f S os).bind (augJ i h S d)
  | _ => .bad
@[simp] theorem e_aug (i : Nat) (h : D → D → M D) (f : Sl → M D) : aug i h f S os = augI i h f S S[i]? os := (rfl)
@[simp] theorem k_augI (i : Nat) (h : D → D → M D) (f : Sl → M D) (d : D) : augI i h f S (some (some d)) os = (f S os).bind (augJ i h S d) := (rfl)
@[simp] theorem k_augJ (i : Nat) (h : D → D → M D) (d e : D) : augJ i h S d e os = (h d e os).bind (augK i S) := (rfl)
@[simp] theorem k_augK (i : Nat) (z : D) : augK i S z os = .ok (.nx (S.set i (some z))) os := (rfl)
def stoK (S : Sl) (o : Option (List O)) : Res Fl := match o with
  | some os' => .ok (.nx S) os'
  | none => .bad
def stoL (S : Sl) (v o i : D) : M Fl := fun os => stoK S (setV o i v os)
def stoI (fi : Sl → M D) (S : Sl) (v o : D) : M Fl := fun os => (fi S os).bind (stoL S v o)
def stoJ (fo fi : Sl → M D) (S : Sl) (v : D) : M Fl := fun os => (fo S os).bind (stoI fi S v)
@[simp] theorem e_sto (fo fi fv : Sl → M D) : sto fo fi fv S os = (fv S os).bind (stoJ fo fi S) := (rfl)
@[simp] theorem k_stoJ (fo fi : Sl → M D) (v : D) : stoJ fo fi S v os = (fo S os).bind (stoI fi S v) := (rfl)
@[simp] theorem k_stoI (fi : Sl → M D) (v o : D) : stoI fi S v o os = (fi S os).bind (stoL S v o) := (rfl)
@[simp] theorem k_stoL (v o i : D) : stoL S v o i os = stoK S (setV o i v os) := (rfl)
@[simp] theorem k_stoK (os' : List O) : stoK S (some os') = .ok (.nx S) os' := (rfl)
@[simp] theorem e_rse (c : Str) : rse c S os = .ex ⟨c, none⟩ os := (rfl)
def tryJ (fs : MS) (x : Exn) (os : List O) (b : Option Bool) : Res Fl := match b with
  | some true => noEx (fs [] os)
  | some false => .ex x os
  | none => .bad
def tryK (m : Str → Option Bool) (fs : MS) (r : Res Fl) : Res Fl := match r with
  | .ex x os1 => tryJ fs x os1 (m x.cls)
  | r => r
@[simp] theorem e_try (m : Str → Option Bool) (f fs : MS) : tryD m f fs S os = tryK m fs (f S os) := by
  unfold tryD tryK
  cases f S os <;> rfl
@[simp] theorem k_tryOk (m : Str → Option Bool) (fs : MS) (fl : Fl) : tryK m fs (.ok fl os) = .ok fl os := (rfl)
@[simp] theorem k_tryEx (m : Str → Option Bool) (fs : MS) (x : Exn) : tryK m fs (.ex x os) = tryJ fs x os (m x.cls) := (rfl)
@[simp] theorem k_tryT (fs : MS) (x : Exn) : tryJ fs x os (some true) = noEx (fs [] os) := (rfl)
@[simp] theorem k_tryF (fs : MS) (x : Exn) : tryJ fs x os (some false) = .ex x os := (rfl)
@[simp] theorem k_noEx (fl : Fl) : noEx (.ok fl os) = .ok fl os := (rfl)
/-! ### loops -/
def forJ (g : Tgt) (body : MS) (S : Sl) (ps : List P) : M Fl := fun os => forS g body ps S os
@[simp] theorem e_for (f : Sl → M (List P)) (g : Tgt) (body : MS) : for' f g body S os = (f S os).bind (forJ g body S) := (rfl)
@[simp] theorem k_forJ (g : Tgt) (body : MS) (ps : List P) : forJ g body S ps os = forS g body ps S os := (rfl)
def forK (g : Tgt) (body : MS) (ps : List P) (fl : Fl) : M Fl := fun os => match fl with
  | .nx S2 => forS g body ps S2 os
  | .ct S2 => forS g body ps S2 os
  | .bk S2 => .ok (.nx S2) os
  | .rt d => .ok (.rt d) os
def forI (g : Tgt) (body : MS) (ps : List P) (os : List O) (o : Option Sl) : Res Fl := match o with
  | some S1 => (body S1 os).bind (forK g body ps)
  | none => .bad
@[simp] theorem for_nil (g : Tgt) (body : MS) : forS g body [] S os = .ok (.nx S) os := (rfl)
@[simp] theorem for_cons (g : Tgt) (body : MS) (p : P) (ps : List P) : forS g body (p :: ps) S os = forI g body ps os (g (.p p) S) := by
  show (match g (.p p) S with
    | none => Res.bad
    | some S1 => (body S1 os).bind fun fl os => match fl with
      | .nx S2 => forS g body ps S2 os
      | .ct S2 => forS g body ps S2 os
      | .bk S2 => .ok (.nx S2) os
      | .rt d => .ok (.rt d) os) = _
  cases g (.p p) S <;> rfl
@[simp] theorem k_forI (g : Tgt) (body : MS) (ps : List P) (S1 : Sl) : forI g body ps os (some S1) = (body S1 os).bind (forK g body ps) := (rfl)
@[simp] theorem k_forN (g : Tgt) (body : MS) (ps : List P) (S2 : Sl) : forK g body ps (.nx S2) os = forS g body ps S2 os := (rfl)
@[simp] theorem k_forC (g : Tgt) (body : MS) (ps : List P) (S2 : Sl) : forK g body ps (.ct S2) os = forS g body ps S2 os := (rfl)
@[simp] theorem k_forB (g : Tgt) (body : MS) (ps : List P) (S2 : Sl) : forK g body ps (.bk S2) os = .ok (.nx S2) os := (rfl)
@[simp] theorem k_forR (g : Tgt) (body : MS) (ps : List P) (d : D) : forK g body ps (.rt d) os = .ok (.rt d) os := (rfl)
/-! ### comprehensions -/
def lcJ (vs : List Nat) (g : Tgt) (c : Sl → M Bool) (e : Sl → M D) (S : Sl) (ps : List P) : M (List P) := fun os => lcS g c e ps [] (wipeS S vs) os
@[simp] theorem e_lc (f : Sl → M (List P)) (vs : List Nat) (g : Tgt) (c : Sl → M Bool) (e : Sl → M D) : lc f vs g c e S os = (f S os).bind (lcJ vs g c e S) := (rfl)
@[simp] theorem k_lcJ (vs : List Nat) (g : Tgt) (c : Sl → M Bool) (e : Sl → M D) (ps : List P) : lcJ vs g c e S ps os = lcS g c e ps [] (wipeS S vs) os := (rfl)
@[simp] theorem e_yes : yesB S os = .ok true os := (rfl)
theorem lcS_run {g : Tgt} {c : Sl → M Bool} {e : Sl → M D} (cf : P → Bool) (hf : P → P) : ∀ {ps acc : List P}, (∀ p ∈ ps, ∃ S1, g (.p p) S = some S1 ∧ c S1 os = .ok (cf p) os ∧ (cf p = true → e S1 os = .ok (.p (hf p)) os)) → acc.length + ps.length ≤ sizeLine →
    lcS g c e ps acc S os = .ok (acc ++ (ps.filter cf).map hf) os
  | [], acc, _, _ => by simp [lcS]
  | p :: ps, acc, h, hl => by
    obtain ⟨S1, h1, h2, h3⟩ := h p (by simp)
    have ht : ∀ q ∈ ps, ∃ S1, g (.p q) S = some S1 ∧ c S1 os = .ok (cf q) os ∧ (cf q = true → e S1 os = .ok (.p (hf q)) os) := fun q hq => h q (by simp [hq])
    rw [List.length_cons] at hl
    unfold lcS
    rw [h1]
    dsimp only
    rw [h2]
    cases hc : cf p with
    | false =>
      dsimp only
      rw [lcS_run cf hf ht (by omega), List.filter_cons_of_neg (by simp [hc])]
    | true =>
      dsimp only
      rw [h3 hc]
      dsimp only
      rw [if_pos (by omega), lcS_run cf hf ht (by rw [List.length_append, List.length_singleton]; omega), List.filter_cons_of_pos hc]
      simp
/-- no filter -/
theorem lcS_map {g : Tgt} {e : Sl → M D} {ps : List P} (hf : P → P) (h : ∀ p ∈ ps, ∃ S1, g (.p p) S = some S1 ∧ e S1 os = .ok (.p (hf p)) os) (hl : ps.length ≤ sizeLine) : lcS g yesB e ps [] S os = .ok (ps.map hf) os := by
  have := lcS_run (S := S) (os := os) (g := g) (c := yesB) (e := e) (fun _ => true) hf (ps := ps) (acc := []) (fun p hp => by
    obtain ⟨S1, h1, h2⟩ := h p hp
    exact ⟨S1, h1, rfl, fun _ => h2⟩) (by simpa using hl)
  rw [this, List.filter_eq_self.mpr (fun _ _ => rfl)]
  rfl
/-! ### defs -/
@[simp] theorem trim_rt (x : P) : trimR 0 (.ok (.rt (.p x)) os) = .ok (.p x) [] := (rfl)
@[simp] theorem trim_nx : trimR 0 (.ok (.nx S) os) = .ok (.p .non) [] := (rfl)
@[simp] theorem trim_ex (x : Exn) : trimR 0 (.ex x os) = .ex x [] := (rfl)
@[simp] theorem e_fn (n : Nat) (g : MS) (ds : List D) : fnD n g ds os = trimR os.length (g (ds.map some ++ List.replicate (n - ds.length) none) os) := (rfl)
def callK (os : List O) (r : Res D) : Res D := match r with
  | .ok (.p x) [] => .ok (.p x) os
  | .ok (.own 0) [o] => if o.flat = true then .ok (.own os.length) (os ++ [o]) else .bad
  | .ex x [] => .ex x os
  | _ => .bad
@[simp] theorem k_callP (x : P) : callK os (.ok (.p x) []) = .ok (.p x) os := (rfl)
@[simp] theorem k_callO (o : O) : callK os (.ok (.own 0) [o]) = if o.flat = true then .ok (.own os.length) (os ++ [o]) else .bad := (rfl)
@[simp] theorem k_callX (x : Exn) : callK os (.ex x []) = .ex x os := (rfl)
theorem own_ps : ∀ xs : List P, ownIds (xs.map D.p) = []
  | [] => rfl
  | x :: xs => own_ps xs
theorem relab_ps : ∀ xs : List P, relab 0 (xs.map D.p) = xs.map D.p
  | [] => rfl
  | x :: xs => by
    rw [List.map_cons]
    unfold relab
    rw [relab_ps xs]
theorem putB_nil (r : List O) : putB os [] r = os := by unfold putB; rfl
theorem callD_p {f : List D → M D} (xs : List P) : callD f (xs.map D.p) os = callK os (f (xs.map D.p) []) := by
  unfold callD
  rw [own_ps, relab_ps]
  have hp : pickO os [] = some [] := rfl
  rw [hp]
  dsimp only
  rw [if_pos (by decide)]
  cases f (xs.map D.p) [] with
  | bad => rfl
  | ex x r =>
    cases r with
    | nil =>
      dsimp only
      rw [putB_nil]
      rfl
    | cons o r =>
      dsimp only
      rw [if_neg (by simp)]
      rfl
  | ok d r =>
    cases d with
    | p x =>
      cases r with
      | nil =>
        dsimp only
        rw [putB_nil]
        rfl
      | cons o r =>
        dsimp only
        rw [if_neg (by simp)]
        rfl
    | own j =>
      match j, r with
      | 0, [o] =>
        dsimp only
        rw [putB_nil]
        show (if _ then _ else _) = if o.flat = true then _ else _
        by_cases ho : o.flat = true
        · rw [if_pos ho, if_pos (by simp [ho])]
          rfl
        · rw [if_neg ho, if_neg (by simp [ho])]
      | 0, [] =>
        dsimp only
        rw [if_neg (by simp)]
        rfl
      | 0, _ :: _ :: _ =>
        dsimp only
        rw [if_neg (by simp)]
        rfl
      | _ + 1, _ =>
        dsimp only
        rw [if_neg (by simp)]
        rfl
@[simp] theorem call0 (f : List D → M D) : callN 0 f [] os = callK os (f [] []) := callD_p []
@[simp] theorem call1 (f : List D → M D) (a : P) : callN 1 f [.p a] os = callK os (f [.p a] []) := callD_p [a]
@[simp] theorem call2 (f : List D → M D) (a b : P) : callN 2 f [.p a, .p b] os = callK os (f [.p a, .p b] []) := callD_p [a, b]
@[simp] theorem call3 (f : List D → M D) (a b c : P) : callN 3 f [.p a, .p b, .p c] os = callK os (f [.p a, .p b, .p c] []) := callD_p [a, b, c]
@[simp] theorem call4 (f : List D → M D) (a b c d : P) : callN 4 f [.p a, .p b, .p c, .p d] os = callK os (f [.p a, .p b, .p c, .p d] []) := callD_p [a, b, c, d]
@[simp] theorem call5 (f : List D → M D) (a b c d e : P) : callN 5 f [.p a, .p b, .p c, .p d, .p e] os = callK os (f [.p a, .p b, .p c, .p d, .p e] []) := callD_p [a, b, c, d, e]
@[simp] theorem call6 (f : List D → M D) (a b c d e h : P) : callN 6 f [.p a, .p b, .p c, .p d, .p e, .p h] os = callK os (f [.p a, .p b, .p c, .p d, .p e, .p h] []) := callD_p [a, b, c, d, e, h]
end
end DL
/-! DLn: operations, for simp. -/
namespace DL
open PySem PySem.Spec
open PyProof.Rows L2
section
variable {os : List O}
@[simp] theorem o_addI (i j : Int) : addV (.p (.int i)) (.p (.int j)) os = .ok (.p (.int (i + j))) os := (rfl)
@[simp] theorem o_addS (a b : Str) : addV (.p (.str a)) (.p (.str b)) os = if a.length + b.length ≤ sizeLine then .ok (.p (.str (a ++ b))) os else .bad := (rfl)
@[simp] theorem o_addL (xs ys : List P) : addV (.p (.lst xs)) (.p (.lst ys)) os = if xs.length + ys.length ≤ sizeLine then .ok (.p (.lst (xs ++ ys))) os else .bad := by
  show frz (catV (.p (.lst xs)) (.p (.lst ys))) os = _
  unfold frz catV
  show (if _ then _ else _ : Res (List P)).bind _ = _
  split <;> rfl
@[simp] theorem o_subI (i j : Int) : subV (.p (.int i)) (.p (.int j)) os = .ok (.p (.int (i - j))) os := (rfl)
@[simp] theorem o_mulI (i j : Int) : mulV (.p (.int i)) (.p (.int j)) os = if mulOk i j = true then .ok (.p (.int (i * j))) os else .bad := (rfl)
theorem o_divI {i j : Int} (h : 0 < j) (h2 : j < 1073741824) : divV (.p (.int i)) (.p (.int j)) os = .ok (.p (.int (i / j))) os := if_pos ⟨h, h2⟩
theorem o_modI {i j : Int} (h : 0 < j) : modV (.p (.int i)) (.p (.int j)) os = .ok (.p (.int (i % j))) os := if_pos h
@[simp] theorem o_negI (i : Int) : negV (.p (.int i)) os = .ok (.p (.int (-i))) os := (rfl)
@[simp] theorem o_cmpI (fi : Int → Int → Bool) (fs : Str → Str → Bool) (i j : Int) : cmpV fi fs (.p (.int i)) (.p (.int j)) os = .ok (.p (.bl (fi i j))) os := (rfl)
@[simp] theorem o_cmpS (fi : Int → Int → Bool) (fs : Str → Str → Bool) (i j : Str) : cmpV fi fs (.p (.str i)) (.p (.str j)) os = .ok (.p (.bl (fs i j))) os := (rfl)
@[simp] theorem o_eqI (i j : Int) : eqX (.p (.int i)) (.p (.int j)) os = .ok (.p (.bl (decide (i = j)))) os := (rfl)
@[simp] theorem o_eqS (i j : Str) : eqX (.p (.str i)) (.p (.str j)) os = .ok (.p (.bl (decide (i = j)))) os := (rfl)
@[simp] theorem o_eqB (i j : Bool) : eqX (.p (.bl i)) (.p (.bl j)) os = .ok (.p (.bl (decide (i = j)))) os := (rfl)
@[simp] theorem o_neI (i j : Int) : neX (.p (.int i)) (.p (.int j)) os = .ok (.p (.bl (!decide (i = j)))) os := (rfl)
@[simp] theorem o_neS (i j : Str) : neX (.p (.str i)) (.p (.str j)) os = .ok (.p (.bl (!decide (i = j)))) os := (rfl)
@[simp] theorem o_neB (i j : Bool) : neX (.p (.bl i)) (.p (.bl j)) os = .ok (.p (.bl (!decide (i = j)))) os := (rfl)
@[simp] theorem o_isB (i j : Bool) : isV (.p (.bl i)) (.p (.bl j)) os = .ok (.p (.bl (decide (i = j)))) os := (rfl)
/-! in -/
def inK (o : Option Bool) : M D := fun os => match o with
  | some b => .ok (.p (.bl b)) os
  | none => .bad
def ninK (o : Option Bool) : M D := fun os => match o with
  | some b => .ok (.p (.bl (!b))) os
  | none => .bad
@[simp] theorem oo_in (d e : D) : inV' d e os = inK (inP d e os) os := (rfl)
@[simp] theorem oo_nin (d e : D) : notinV d e os = ninK (inP d e os) os := (rfl)
@[simp] theorem k_in (b : Bool) : inK (some b) os = .ok (.p (.bl b)) os := (rfl)
@[simp] theorem k_nin (b : Bool) : ninK (some b) os = .ok (.p (.bl (!b))) os := (rfl)
def inFlat (x : P) (ys : List P) : Option Bool := if (pflat x && ys.all pflat) = true then some (ys.any fun y => pfeq y x) else none
@[simp] theorem inP_tup (x : P) (ys : List P) : inP (.p x) (.p (.tup ys)) os = inFlat x ys := by cases x <;> rfl
@[simp] theorem inP_ctup (x : P) (ys : List P) : inP (.p x) (.p (.ctup ys)) os = inFlat x ys := by cases x <;> rfl
@[simp] theorem inP_str (a : Nat) (b : Str) : inP (.p (.str ⟨#[a]⟩)) (.p (.str b)) os = some (decide (a ∈ b.cps.toList)) := (rfl)
theorem inP_lst (x : P) (ys : List P) (h : (pflat x && ys.all pflat) = true) : inP (.p x) (.p (.lst ys)) os = some (ys.any fun y => pfeq y x) := by
  cases x <;> exact if_pos h
@[simp] theorem flat_str (x : Str) : pflat (.str x) = true := (rfl)
@[simp] theorem flat_int (x : Int) : pflat (.int x) = true := (rfl)
@[simp] theorem flat_bl (x : Bool) : pflat (.bl x) = true := (rfl)
@[simp] theorem pfeq_str (a b : Str) : pfeq (.str a) (.str b) = (a == b) := (rfl)
@[simp] theorem pfeq_int (a b : Int) : pfeq (.int a) (.int b) = (a == b) := (rfl)
theorem inFlat_strs (x : Str) (ys : List Str) : inFlat (.str x) (ys.map P.str) = some (decide (x ∈ ys)) := by
  unfold inFlat
  rw [if_pos]
  · congr 1
    rw [Bool.eq_iff_iff, List.any_map, List.any_eq_true, decide_eq_true_eq]
    constructor
    · rintro ⟨y, hy, e⟩
      have : y = x := by simpa using e
      exact this ▸ hy
    · intro h
      exact ⟨x, h, by simp⟩
  · simp [List.all_map]
theorem any_strs (x : Str) (ys : List Str) : ((ys.map P.str).any fun y => pfeq y (.str x)) = decide (x ∈ ys) := by
  rw [Bool.eq_iff_iff, List.any_map, List.any_eq_true, decide_eq_true_eq]
  constructor
  · rintro ⟨y, hy, e⟩
    have : y = x := by simpa using e
    exact this ▸ hy
  · intro h
    exact ⟨x, h, by simp⟩
@[simp] theorem inP_lstS (x : Str) (ys : List Str) : inP (.p (.str x)) (.p (.lst (ys.map P.str))) os = some (decide (x ∈ ys)) := by
  rw [inP_lst _ _ (by simp [List.all_map]), any_strs]
@[simp] theorem inP_lst0 (x : Str) : inP (.p (.str x)) (.p (.lst [])) os = some false := by
  rw [inP_lst _ _ (by simp)]
  rfl
/-! places -/
def ixK (o : Option P) : M D := fun os => match o with
  | some x => .ok (.p x) os
  | none => .bad
@[simp] theorem k_ix (x : P) : ixK (some x) os = .ok (.p x) os := (rfl)
@[simp] theorem o_ixT (xs : List P) (i : Int) : ixV (.p (.tup xs)) (.p (.int i)) os = ixK (atI xs i) os := (rfl)
@[simp] theorem o_ixL (xs : List P) (i : Int) : ixV (.p (.lst xs)) (.p (.int i)) os = ixK (atI xs i) os := (rfl)
@[simp] theorem o_ixScr (ns : List Int) (i : Int) : ixV (.p (.scr ns)) (.p (.int i)) os = ixK (atI (ns.map P.int) i) os := (rfl)
theorem o_ixS (z : Str) (i : Int) (h : z.length ≤ sizeLine) : ixV (.p (.str z)) (.p (.int i)) os = ixK ((atI z.cps.toList i).map fun c => P.str ⟨#[c]⟩) os := by
  show (match (if z.length ≤ sizeLine then (atI z.cps.toList i).map fun c => P.str ⟨#[c]⟩ else none) with
    | some x => Res.ok (D.p x) os
    | none => .bad) = _
  rw [if_pos h]
  rfl
theorem atI_nat {α : Type} (xs : List α) (k : Nat) : atI xs (k : Int) = xs[k]? := by
  unfold atI ixN
  by_cases h : k < xs.length
  · simp [h]
  · simp [h, List.getElem?_eq_none (Nat.le_of_not_lt h)]
theorem atI_in {α : Type} {xs : List α} {i : Int} (h0 : 0 ≤ i) (h1 : i < xs.length) : ∃ x, atI xs i = some x ∧ x ∈ xs := by
  obtain ⟨k, rfl⟩ : ∃ k : Nat, i = k := ⟨i.toNat, by omega⟩
  rw [atI_nat]
  have hk : k < xs.length := by omega
  exact ⟨xs[k], List.getElem?_eq_getElem hk, List.getElem_mem hk⟩
@[simp] theorem atI_0 {α : Type} (x : α) (xs : List α) : atI (x :: xs) 0 = some x := atI_nat (x :: xs) 0
@[simp] theorem atI_1 {α : Type} (x y : α) (xs : List α) : atI (x :: y :: xs) 1 = some y := atI_nat (x :: y :: xs) 1
@[simp] theorem atI_2 {α : Type} (x y z : α) (xs : List α) : atI (x :: y :: z :: xs) 2 = some z := atI_nat (x :: y :: z :: xs) 2
@[simp] theorem atI_3 {α : Type} (x y z t : α) (xs : List α) : atI (x :: y :: z :: t :: xs) 3 = some t := atI_nat (x :: y :: z :: t :: xs) 3
/-! length -/
@[simp] theorem o_lenT (xs : List P) : lenV (.p (.tup xs)) os = .ok (.p (.int xs.length)) os := (rfl)
@[simp] theorem o_lenL (xs : List P) : lenV (.p (.lst xs)) os = .ok (.p (.int xs.length)) os := (rfl)
@[simp] theorem o_lenC (xs : List P) : lenV (.p (.ctup xs)) os = .ok (.p (.int xs.length)) os := (rfl)
@[simp] theorem o_lenScr (ns : List Int) : lenV (.p (.scr ns)) os = .ok (.p (.int ns.length)) os := by
  show Res.ok (D.p (.int ((ns.map P.int).length : Nat))) os = _
  rw [List.length_map]
@[simp] theorem o_lenS (z : Str) : lenV (.p (.str z)) os = if z.length ≤ sizeLine then .ok (.p (.int z.length)) os else .bad := by
  show (match (if z.length ≤ sizeLine then some z.length else none) with
    | some n => Res.ok (D.p (.int n)) os
    | none => .bad) = _
  by_cases h : z.length ≤ sizeLine
  · rw [if_pos h, if_pos h]
  · rw [if_neg h, if_neg h]
@[simp] theorem o_lenK (kvs : List (Key × P)) : lenV (.p (.dK kvs)) os = .ok (.p (.int kvs.length)) os := (rfl)
/-! built-ins -/
@[simp] theorem o_fn1 {α : Type} (g : D → M α) (d : D) : fn1 g [d] os = g d os := (rfl)
@[simp] theorem o_fn2 {α : Type} (g : D → D → M α) (d e : D) : fn2 g [d, e] os = g d e os := (rfl)
@[simp] theorem o_intI (i : Int) : intV (.p (.int i)) os = .ok (.p (.int i)) os := (rfl)
@[simp] theorem o_intB (b : Bool) : intV (.p (.bl b)) os = .ok (.p (.int (if b then 1 else 0))) os := (rfl)
@[simp] theorem o_listT (xs : List P) : listV (.p (.tup xs)) os = .ok xs os := (rfl)
@[simp] theorem o_listL (xs : List P) : listV (.p (.lst xs)) os = .ok xs os := (rfl)
@[simp] theorem o_tupL (xs : List P) : tupleV (.p (.lst xs)) os = .ok (.p (.tup xs)) os := (rfl)
@[simp] theorem o_tupT (xs : List P) : tupleV (.p (.tup xs)) os = .ok (.p (.tup xs)) os := (rfl)
@[simp] theorem o_max2 (i j : Int) : max2V (.p (.int i)) (.p (.int j)) os = .ok (.p (.int (if j > i then j else i))) os := (rfl)
@[simp] theorem o_min2 (i j : Int) : min2V (.p (.int i)) (.p (.int j)) os = .ok (.p (.int (if j < i then j else i))) os := (rfl)
theorem intsOf_fun {α : Type} (f : α → Int) : ∀ l : List α, intsOf (l.map fun x => P.int (f x)) = some (l.map f)
  | [] => rfl
  | x :: l => by
    rw [List.map_cons, List.map_cons]
    unfold intsOf
    rw [intsOf_fun f l]
    rfl
theorem strsOf_fun {α : Type} (f : α → Str) : ∀ l : List α, strsOf (l.map fun x => P.str (f x)) = some (l.map f)
  | [] => rfl
  | x :: l => by
    rw [List.map_cons, List.map_cons]
    unfold strsOf
    rw [strsOf_fun f l]
    rfl
theorem blsOf_fun {α : Type} (f : α → Bool) : ∀ l : List α, blsOf (l.map fun x => P.bl (f x)) = some (l.map f)
  | [] => rfl
  | x :: l => by
    rw [List.map_cons, List.map_cons]
    unfold blsOf
    rw [blsOf_fun f l]
    rfl
def allK (o : Option (List Bool)) : M D := fun os => match o with
  | some bs => .ok (.p (.bl (bs.all id))) os
  | none => .bad
@[simp] theorem o_all (xs : List P) : allV (.p (.lst xs)) os = allK (blsOf xs) os := (rfl)
@[simp] theorem k_all (bs : List Bool) : allK (some bs) os = .ok (.p (.bl (bs.all id))) os := (rfl)
@[simp] theorem bls_nil : blsOf [] = some [] := (rfl)
@[simp] theorem bls_cons (b : Bool) (ps : List P) : blsOf (.bl b :: ps) = (blsOf ps).map (b :: ·) := by rw [blsOf]
@[simp] theorem bls_fun {α : Type} (f : α → Bool) (l : List α) : blsOf (l.map fun x => P.bl (f x)) = some (l.map f) := blsOf_fun f l
theorem o_maxD {α : Type} (f : α → Int) (k : Int) (l : List α) : maxDV k (.p (.lst (l.map fun x => P.int (f x)))) os = .ok (.p (.int (match l.map f with
  | [] => k
  | b :: bs => maxI b bs))) os := by
  show (match intsOf (l.map fun x => P.int (f x)) with
    | some [] => Res.ok (D.p (.int k)) os
    | some (b :: bs) => .ok (.p (.int (maxI b bs))) os
    | none => .bad) = _
  rw [intsOf_fun]
  cases l.map f <;> rfl
theorem o_max {α : Type} (f : α → Int) (l : List α) : maxV (.p (.lst (l.map fun x => P.int (f x)))) os = match l.map f with
  | [] => .bad
  | b :: bs => .ok (.p (.int (maxI b bs))) os := by
  show (match intsOf (l.map fun x => P.int (f x)) with
    | some (b :: bs) => Res.ok (D.p (.int (maxI b bs))) os
    | _ => .bad) = _
  rw [intsOf_fun]
  cases l.map f <;> rfl
theorem o_sortS {α : Type} (f : α → Str) (l : List α) (h : l.length < 64) : sortedV (.p (.lst (l.map fun x => P.str (f x)))) os = .ok ((sortS (l.map f)).map P.str) os := by
  show (match strsOf (l.map fun x => P.str (f x)) with
      | some ss => if ss.length < 64 then Res.ok ((sortS ss).map P.str) os else .bad
      | none => _) = _
  rw [strsOf_fun]
  exact if_pos (by simpa using h)
@[simp] theorem ints_nil : intsOf [] = some [] := (rfl)
@[simp] theorem ints_cons (b : Int) (ps : List P) : intsOf (.int b :: ps) = (intsOf ps).map (b :: ·) := by rw [intsOf]
@[simp] theorem ints_fun {α : Type} (f : α → Int) (l : List α) : intsOf (l.map fun x => P.int (f x)) = some (l.map f) := intsOf_fun f l
def maxK (o : Option (List Int)) : M D := fun os => match o with
  | some (b :: bs) => .ok (.p (.int (maxI b bs))) os
  | _ => .bad
def maxDK (k : Int) (o : Option (List Int)) : M D := fun os => match o with
  | some [] => .ok (.p (.int k)) os
  | some (b :: bs) => .ok (.p (.int (maxI b bs))) os
  | none => .bad
def sumK (o : Option (List Int)) : M D := fun os => match o with
  | some bs => .ok (.p (.int bs.sum)) os
  | none => .bad
@[simp] theorem o_maxL (xs : List P) : maxV (.p (.lst xs)) os = maxK (intsOf xs) os := by
  show (match intsOf xs with
    | some (b :: bs) => Res.ok (D.p (.int (maxI b bs))) os
    | _ => .bad) = _
  cases h : intsOf xs with
  | none => rfl
  | some bs => cases bs <;> rfl
@[simp] theorem k_maxL (b : Int) (bs : List Int) : maxK (some (b :: bs)) os = .ok (.p (.int (maxI b bs))) os := (rfl)
@[simp] theorem o_sumL (xs : List P) : sumV (.p (.lst xs)) os = sumK (intsOf xs) os := by
  show (match intsOf xs with
    | some bs => Res.ok (D.p (.int bs.sum)) os
    | none => .bad) = _
  cases h : intsOf xs <;> rfl
@[simp] theorem k_sumL (bs : List Int) : sumK (some bs) os = .ok (.p (.int bs.sum)) os := (rfl)
theorem map_int (l : List Int) : (l.map P.int) = l.map fun x => P.int x := rfl
@[simp] theorem o_sort0 : sortedV (.p (.lst [])) os = .ok [] os := by
  have := o_sortS (os := os) (fun x : Str => x) [] (by decide)
  simpa [sortS] using this
theorem o_sortL (ss : List Str) (h : ss.length < 64) : sortedV (.p (.lst (ss.map P.str))) os = .ok ((sortS ss).map P.str) os := by
  have := o_sortS (os := os) (fun x : Str => x) ss h
  simpa using this
/-! ranges, walks -/
def rng (n : Int) : Bool := decide (-(2 ^ 62) ≤ n ∧ n < 2 ^ 62)
theorem rng_of {n : Int} (h0 : -1000000000000 ≤ n) (h1 : n ≤ 1000000000000) : rng n = true := by
  have e : (2 : Int) ^ 62 = 4611686018427387904 := by decide +kernel
  unfold rng
  rw [decide_eq_true_eq, e]
  omega
@[simp] theorem o_r1 (n : Int) : itsR1 [.p (.int n)] os = if rng n = true then .ok (upto 0 n.toNat) os else .bad := by
  show (if _ then _ else _) = _
  unfold rng
  simp only [decide_eq_true_eq]
@[simp] theorem o_r2 (a b : Int) : itsR2 [.p (.int a), .p (.int b)] os = if rng a = true ∧ rng b = true then .ok (upto a (b - a).toNat) os else .bad := by
  show (if -(2 ^ 62) ≤ a ∧ a < 2 ^ 62 ∧ -(2 ^ 62) ≤ b ∧ b < 2 ^ 62 then _ else _) = _
  unfold rng
  simp only [decide_eq_true_eq, and_assoc]
@[simp] theorem o_itL (xs : List P) : itsA (.p (.lst xs)) os = .ok xs os := (rfl)
@[simp] theorem o_itT (xs : List P) : itsA (.p (.tup xs)) os = .ok xs os := (rfl)
@[simp] theorem o_itC (xs : List P) : itsA (.p (.ctup xs)) os = .ok xs os := (rfl)
@[simp] theorem o_itScr (ns : List Int) : itsA (.p (.scr ns)) os = .ok (ns.map P.int) os := (rfl)
@[simp] theorem o_itS (z : Str) : itsA (.p (.str z)) os = .ok (z.cps.toList.map fun c => P.str ⟨#[c]⟩) os := (rfl)
/-! isinstance -/
@[simp] theorem o_isiT (T : Ty) (xs : List P) : isiV T (.p (.tup xs)) os = .ok (.p (.bl (isTab .tupleT T))) os := (rfl)
@[simp] theorem o_isiL (T : Ty) (xs : List P) : isiV T (.p (.lst xs)) os = .ok (.p (.bl (isTab .listT T))) os := (rfl)
@[simp] theorem o_isiI (T : Ty) (i : Int) : isiV T (.p (.int i)) os = .ok (.p (.bl (isTab .intT T))) os := (rfl)
@[simp] theorem o_isiB (T : Ty) (i : Bool) : isiV T (.p (.bl i)) os = .ok (.p (.bl (isTab .boolT T))) os := (rfl)
@[simp] theorem o_isiS (T : Ty) (i : Str) : isiV T (.p (.str i)) os = .ok (.p (.bl (isTab .strT T))) os := (rfl)
@[simp] theorem o_isiN (T : Ty) : isiV T (.p .non) os = .ok (.p (.bl (isTab .nonT T))) os := (rfl)
@[simp] theorem o_isiD (T : Ty) (xs : List (Key × P)) : isiV T (.p (.dK xs)) os = .ok (.p (.bl (isTab .dictT T))) os := (rfl)
/-! slices -/
def sliceI {α : Type} (g : D → Option Int → Option Int → M α) (d : D) (lo hi : Option Int) : M α := g d lo hi
def sliceK {α : Type} (g : D → Option Int → Option Int → M α) (hi : Sl → M (Option Int)) (S : Sl) (d : D) (lo : Option Int) : M α := fun os => (hi S os).bind (sliceI g d lo)
def sliceJ {α : Type} (g : D → Option Int → Option Int → M α) (lo hi : Sl → M (Option Int)) (S : Sl) (d : D) : M α := fun os => (lo S os).bind (sliceK g hi S d)
variable {S : Sl}
@[simp] theorem e_slice {α : Type} (g : D → Option Int → Option Int → M α) (f : Sl → M D) (lo hi : Sl → M (Option Int)) : slice g f lo hi S os = (f S os).bind (sliceJ g lo hi S) := (rfl)
@[simp] theorem k_sliceJ {α : Type} (g : D → Option Int → Option Int → M α) (lo hi : Sl → M (Option Int)) (d : D) : sliceJ g lo hi S d os = (lo S os).bind (sliceK g hi S d) := (rfl)
@[simp] theorem k_sliceK {α : Type} (g : D → Option Int → Option Int → M α) (hi : Sl → M (Option Int)) (d : D) (l : Option Int) : sliceK g hi S d l os = (hi S os).bind (sliceI g d l) := (rfl)
@[simp] theorem k_sliceI {α : Type} (g : D → Option Int → Option Int → M α) (d : D) (l h : Option Int) : sliceI g d l h os = g d l h os := (rfl)
@[simp] theorem e_noPart : noPart S os = .ok none os := (rfl)
def partJ (d : D) : M (Option Int) := fun os => match d with
  | .p (.int i) => .ok (some i) os
  | _ => .bad
@[simp] theorem e_part (f : Sl → M D) : part f S os = (f S os).bind partJ := (rfl)
@[simp] theorem k_part (i : Int) : partJ (.p (.int i)) os = .ok (some i) os := (rfl)
@[simp] theorem o_sl1 (x : P) (xs : List P) : slV (.p (.tup (x :: xs))) (some 1) none os = .ok (.p (.tup xs)) os := by
  have h1 : HT.sIx (x :: xs).length 0 (some 1) = 1 := by simp [HT.sIx]
  have h2 : HT.sIx (x :: xs).length (x :: xs).length none = xs.length + 1 := rfl
  have h3 : ¬ (HT.sIx (x :: xs).length 0 (some 1) = 0 ∧ HT.sIx (x :: xs).length (x :: xs).length none = (x :: xs).length) := fun h => by
    rw [h1] at h
    exact absurd h.1 (by decide)
  refine (if_neg (t := Res.bad) h3).trans ?_
  unfold cutP
  rw [h1, h2]
  simp
/-! comprehensions over coded lists -/
theorem lcS_A {α : Type} {g : Tgt} {c : Sl → M Bool} {e : Sl → M D} (enc : α → P) (cf : α → Bool) (hf : α → P) : ∀ {xs : List α} {acc : List P}, (∀ x ∈ xs, ∃ S1, g (.p (enc x)) S = some S1 ∧ c S1 os = .ok (cf x) os ∧ (cf x = true → e S1 os = .ok (.p (hf x)) os)) → acc.length + xs.length ≤ sizeLine →
    lcS g c e (xs.map enc) acc S os = .ok (acc ++ (xs.filter cf).map hf) os
  | [], acc, _, _ => by simp [lcS]
  | x :: xs, acc, h, hl => by
    obtain ⟨S1, h1, h2, h3⟩ := h x (by simp)
    have ht : ∀ q ∈ xs, ∃ S1, g (.p (enc q)) S = some S1 ∧ c S1 os = .ok (cf q) os ∧ (cf q = true → e S1 os = .ok (.p (hf q)) os) := fun q hq => h q (by simp [hq])
    rw [List.length_cons] at hl
    rw [List.map_cons]
    unfold lcS
    rw [h1]
    dsimp only
    rw [h2]
    cases hc : cf x with
    | false =>
      dsimp only
      rw [lcS_A enc cf hf ht (by omega), List.filter_cons_of_neg (by simp [hc])]
    | true =>
      dsimp only
      rw [h3 hc]
      dsimp only
      rw [if_pos (by omega), lcS_A enc cf hf ht (by rw [List.length_append, List.length_singleton]; omega), List.filter_cons_of_pos hc]
      simp
theorem lcS_F {α : Type} {g : Tgt} {c : Sl → M Bool} {e : Sl → M D} (enc : α → P) (cf : α → Bool) (hf : α → P) {xs : List α} (hl : xs.length ≤ sizeLine) (h : ∀ x ∈ xs, ∃ S1, g (.p (enc x)) S = some S1 ∧ c S1 os = .ok (cf x) os ∧ (cf x = true → e S1 os = .ok (.p (hf x)) os)) : lcS g c e (xs.map enc) [] S os = .ok ((xs.filter cf).map hf) os :=
  (lcS_A enc cf hf h (by simpa using hl)).trans (by rw [List.nil_append])
theorem lcS_M {α : Type} {g : Tgt} {e : Sl → M D} (enc : α → P) (hf : α → P) {xs : List α} (hl : xs.length ≤ sizeLine) (h : ∀ x ∈ xs, ∃ S1, g (.p (enc x)) S = some S1 ∧ e S1 os = .ok (.p (hf x)) os) : lcS g yesB e (xs.map enc) [] S os = .ok (xs.map hf) os := by
  rw [lcS_F (c := yesB) enc (fun _ => true) hf hl fun x hx => (h x hx).imp fun S1 h => ⟨h.1, rfl, fun _ => h.2⟩, List.filter_eq_self.mpr (fun _ _ => rfl)]
theorem lcS_E {α : Type} {g : Tgt} {c : Sl → M Bool} {e : Sl → M D} (enc : α → P) {xs : List α} (hl : xs.length ≤ sizeLine) (h : ∀ x ∈ xs, ∃ S1, g (.p (enc x)) S = some S1 ∧ c S1 os = .ok false os) : lcS g c e (xs.map enc) [] S os = .ok [] os := by
  rw [lcS_F enc (fun _ => false) (fun _ => P.non) hl fun x hx => (h x hx).imp fun S1 h => ⟨h.1, h.2, fun h => by cases h⟩, List.filter_eq_nil_iff.mpr (fun _ _ => by simp)]
  rfl
/-! methods, owned lists -/
def mtJ {α : Type} (T : String) (g : D → List D → M α) (fr : Sl → M (List D)) (S : Sl) (d : D) : M α := fun os => if recvOk os T d = true then (fr S os).bind (g d) else .bad
@[simp] theorem e_mtN {α : Type} (T : String) (g : D → List D → M α) (f : Sl → M D) (fr : Sl → M (List D)) : mtN T g f fr S os = (f S os).bind (mtJ T g fr S) := (rfl)
@[simp] theorem k_mtJ {α : Type} (T : String) (g : D → List D → M α) (fr : Sl → M (List D)) (d : D) : mtJ T g fr S d os = if recvOk os T d = true then (fr S os).bind (g d) else .bad := (rfl)
@[simp] theorem recv_own {xs : List P} {i : Nat} (h : os[i]? = some (.lst xs)) : recvOk os "list" (.own i) = true := by
  simp only [recvOk, tyOf, h]
  rfl
theorem app_own {xs : List P} {i : Nat} {x : P} (h : os[i]? = some (.lst xs)) (hl : xs.length < 16777216) : appV (.own i) [.p x] os = .ok (.p .non) (os.set i (.lst (xs ++ [x]))) := by
  simp only [appV, h]
  rw [if_pos (by rw [sizeLine_eq]; exact hl)]
@[simp] theorem ix_own {xs : List P} {i : Nat} {k : Int} (h : os[i]? = some (.lst xs)) : ixV (.own i) (.p (.int k)) os = ixK (atI xs k) os := by
  simp only [ixV, ixO, dctOf, seqOf, h]
  rfl
@[simp] theorem len_own {xs : List P} {i : Nat} (h : os[i]? = some (.lst xs)) : lenV (.own i) os = .ok (.p (.int xs.length)) os := by
  simp only [lenV, lenO, dctOf, seqOf, h]
  rfl
@[simp] theorem len_ownK {kvs : List (Key × P)} {i : Nat} (h : os[i]? = some (.dK kvs)) : lenV (.own i) os = .ok (.p (.int kvs.length)) os := by
  simp only [lenV, lenO, dctOf, h]
  rfl
theorem ix_ownK {kvs : List (Key × P)} {i : Nat} {z : Str} {x : P} (h : os[i]? = some (.dK kvs)) (hx : dlook kvs (.inr z) = some x) : ixV (.own i) (.p (.str z)) os = .ok (.p x) os := by
  simp only [ixV, ixO, dctOf, h]
  simp [DD.look, keyP, hx]
theorem set_ownL {xs : List P} {i : Nat} {k : Nat} {x : P} (h : os[i]? = some (.lst xs)) (hk : k < xs.length) : setV (.own i) (.p (.int k)) (.p x) os = some (os.set i (.lst (xs.set k x))) := by
  simp only [setV, h]
  simp [ixN, hk]
theorem set_ownK {kvs : List (Key × P)} {i : Nat} {z : Str} {x : P} (h : os[i]? = some (.dK kvs)) (hl : kvs.length < 16777216) : setV (.own i) (.p (.str z)) (.p x) os = some (os.set i (.dK (dput kvs (.inr z) x))) := by
  simp only [setV, h]
  dsimp only [keyP]
  rw [if_pos (by rw [sizeLine_eq]; exact hl)]
theorem mulOk_r {i j : Int} (h : -18446744073709551616 < j) (h2 : j < 18446744073709551616) : mulOk i j = true := by
  unfold mulOk
  rw [Bool.or_eq_true]
  right
  rw [decide_eq_true_eq]
  have e : (2 : Int) ^ 64 = 18446744073709551616 := by decide +kernel
  rw [e]
  exact ⟨h, h2⟩
theorem mulOk_l {i j : Int} (h : -18446744073709551616 < i) (h2 : i < 18446744073709551616) : mulOk i j = true := by
  unfold mulOk
  rw [Bool.or_eq_true]
  left
  rw [decide_eq_true_eq]
  have e : (2 : Int) ^ 64 = 18446744073709551616 := by decide +kernel
  rw [e]
  exact ⟨h, h2⟩
/-! == of lists -/
def Fit (n : Nat) (p : P) : Prop := pcan p = true ∧ (py p).depth ≤ n
def FitL (n : Nat) (ps : List P) : Prop := ∀ p ∈ ps, Fit n p
theorem fitL_can {n : Nat} : ∀ {ps : List P}, FitL n ps → pcanL ps = true ∧ PyData.depthAll (pyL ps) ≤ n
  | [], _ => ⟨rfl, by simp [pyL, PyData.depthAll]⟩
  | p :: ps, h => by
    obtain ⟨h1, h2⟩ := fitL_can (ps := ps) (fun q hq => h q (by simp [hq]))
    obtain ⟨h3, h4⟩ := h p (by simp)
    refine ⟨by simp [pcanL, h1, h3], ?_⟩
    simp only [pyL, PyData.depthAll]
    omega
theorem Fit.lst {n : Nat} {ps : List P} (h : FitL n ps) : Fit (n + 1) (.lst ps) := by
  obtain ⟨h1, h2⟩ := fitL_can h
  exact ⟨by simpa [pcan] using h1, by simp only [py, PyData.depth]; omega⟩
theorem Fit.tup {n : Nat} {ps : List P} (h : FitL n ps) : Fit (n + 1) (.tup ps) := by
  obtain ⟨h1, h2⟩ := fitL_can h
  exact ⟨by simpa [pcan] using h1, by simp only [py, PyData.depth]; omega⟩
theorem Fit.int (n : Nat) (i : Int) : Fit n (.int i) := ⟨rfl, by simp [py, PyData.depth]⟩
theorem Fit.str (n : Nat) {x : Str} (h : PyData.strOk x = true) : Fit n (.str x) := ⟨by simpa [pcan] using h, by simp [py, PyData.depth]⟩
theorem Fit.mono {n m : Nat} {p : P} (h : Fit n p) (hm : n ≤ m) : Fit m p := ⟨h.1, by have := h.2; omega⟩
theorem FitL.nil (n : Nat) : FitL n [] := fun p hp => by cases hp
theorem FitL.cons {n : Nat} {p : P} {ps : List P} (h : Fit n p) (t : FitL n ps) : FitL n (p :: ps) := fun q hq => by
  rcases List.mem_cons.mp hq with rfl | hq
  · exact h
  · exact t q hq
theorem Fit.ok {n : Nat} {p : P} (h : Fit n p) (hn : n ≤ 64) : pfit p = true := by
  have := h.2
  unfold pfit
  rw [h.1, Bool.true_and, decide_eq_true_eq]
  omega
theorem fit_strs {ss : List Str} (h : ∀ x ∈ ss, PyData.strOk x = true) : FitL 0 (ss.map P.str) := fun p hp => by
  obtain ⟨x, hx, rfl⟩ := List.mem_map.mp hp
  exact .str 0 (h x hx)
theorem fit_ints (ns : List Int) : FitL 0 (ns.map P.int) := fun p hp => by
  obtain ⟨x, hx, rfl⟩ := List.mem_map.mp hp
  exact .int 0 x
theorem eqX_lst {xs ys : List P} (h : pfit (.lst xs) = true) (h2 : pfit (.lst ys) = true) : eqX (.p (.lst xs)) (.p (.lst ys)) os = .ok (.p (.bl (peq (.lst xs) (.lst ys)))) os := by
  show (match (if (pfit (.lst xs) && pfit (.lst ys)) = true then some (peq (.lst xs) (.lst ys)) else none) with
    | some b => Res.ok (D.p (.bl b)) os
    | none => .bad) = _
  rw [if_pos (by rw [h, h2]; rfl)]
theorem neX_lst {xs ys : List P} (h : pfit (.lst xs) = true) (h2 : pfit (.lst ys) = true) : neX (.p (.lst xs)) (.p (.lst ys)) os = .ok (.p (.bl (!peq (.lst xs) (.lst ys)))) os := by
  show (match (if (pfit (.lst xs) && pfit (.lst ys)) = true then some (peq (.lst xs) (.lst ys)) else none) with
    | some b => Res.ok (D.p (.bl (!b))) os
    | none => .bad) = _
  rw [if_pos (by rw [h, h2]; rfl)]
theorem FitL.lst' {n : Nat} {xs : List P} (h : FitL n xs) (hn : n < 64) : pfit (.lst xs) = true := (Fit.lst h).ok hn
theorem fit_nil : pfit (.lst []) = true := (Fit.lst (FitL.nil 0)).ok (by decide)
theorem peq_nil (xs : List P) : peq (.lst xs) (.lst []) = xs.isEmpty := by
  unfold peq
  cases xs <;> simp [py, pyL, PyData.eqv, PyData.eqvAll]
theorem eqX_nil {n : Nat} {xs : List P} (h : FitL n xs) (hn : n < 64) : eqX (.p (.lst xs)) (.p (.lst [])) os = .ok (.p (.bl xs.isEmpty)) os := by
  rw [eqX_lst (h.lst' hn) fit_nil, peq_nil]
theorem neX_nil {n : Nat} {xs : List P} (h : FitL n xs) (hn : n < 64) : neX (.p (.lst xs)) (.p (.lst [])) os = .ok (.p (.bl (!xs.isEmpty))) os := by
  rw [neX_lst (h.lst' hn) fit_nil, peq_nil]
theorem peq_self {p : P} (h : pcan p = true) : peq p p = true := PySem.SeqAt.eqv_refl _ (can_py p h)
theorem neX_self {n : Nat} {xs : List P} (h : FitL n xs) (hn : n < 64) : neX (.p (.lst xs)) (.p (.lst xs)) os = .ok (.p (.bl false)) os := by
  rw [neX_lst (h.lst' hn) (h.lst' hn), peq_self (Fit.lst h).1]
  rfl
@[simp] theorem eqX_nn : eqX (.p (.lst [])) (.p (.lst [])) os = .ok (.p (.bl true)) os := eqX_nil (FitL.nil 0) (by decide)
@[simp] theorem neX_nn : neX (.p (.lst [])) (.p (.lst [])) os = .ok (.p (.bl false)) os := neX_nil (FitL.nil 0) (by decide)
/-! a text of letters -/
theorem str_items (a : String) : ((Str.ofString a).cps.toList.map fun c => P.str ⟨#[c]⟩) = a.toList.map fun c => P.str ⟨#[c.toNat]⟩ := by
  rw [str_cps, List.map_map]; rfl
end
end DL
/-! DLo: dicts, loops by what they keep, calls with an owned argument. -/
namespace DL
open PySem PySem.Spec
open PyProof.Rows L2
/-! ### loops -/
theorem for_inv {g : Tgt} {body : MS} (Iv : Sl → List O → Prop) : ∀ {ps : List P} {S : Sl} {os : List O}, (∀ p ∈ ps, ∀ S os, Iv S os → ∃ S1, g (.p p) S = some S1 ∧ ∃ S2 os2, (body S1 os = .ok (.nx S2) os2 ∨ body S1 os = .ok (.ct S2) os2) ∧ Iv S2 os2) → Iv S os → ∃ S' os', forS g body ps S os = .ok (.nx S') os' ∧ Iv S' os'
  | [], S, os, _, h => ⟨S, os, rfl, h⟩
  | p :: ps, S, os, hb, h => by
    obtain ⟨S1, h1, S2, os2, h2, h3⟩ := hb p (by simp) S os h
    have ih := for_inv Iv (ps := ps) (fun q hq => hb q (by simp [hq])) h3
    rw [for_cons, h1, k_forI]
    rcases h2 with h2 | h2 <;> rw [h2] <;> exact ih
/-- with a count -/
theorem for_inv_n {g : Tgt} {body : MS} (Iv : Nat → Sl → List O → Prop) : ∀ {ps : List P} {n : Nat} {S : Sl} {os : List O}, (∀ (k : Nat) (p : P), ps[k]? = some p → ∀ S os, Iv (n + k) S os → ∃ S1, g (.p p) S = some S1 ∧ ∃ S2 os2, (body S1 os = .ok (.nx S2) os2 ∨ body S1 os = .ok (.ct S2) os2) ∧ Iv (n + k + 1) S2 os2) → Iv n S os → ∃ S' os', forS g body ps S os = .ok (.nx S') os' ∧ Iv (n + ps.length) S' os'
  | [], n, S, os, _, h => ⟨S, os, rfl, h⟩
  | p :: ps, n, S, os, hb, h => by
    obtain ⟨S1, h1, S2, os2, h2, h3⟩ := hb 0 p rfl S os h
    have ih := for_inv_n Iv (ps := ps) (n := n + 1) (fun k q hq S os hi => by
      have := hb (k + 1) q (by simpa using hq) S os (by rw [show n + (k + 1) = n + 1 + k by omega]; exact hi)
      rw [show n + (k + 1) + 1 = n + 1 + k + 1 by omega] at this
      exact this) h3
    rw [for_cons, h1, k_forI, List.length_cons, show n + (ps.length + 1) = n + 1 + ps.length by omega]
    rcases h2 with h2 | h2 <;> rw [h2] <;> exact ih
/-! ### dicts -/
section
variable {κ α : Type} [DecidableEq κ]
theorem dput_keys {kvs : List (κ × α)} {k : κ} {v : α} : (dput kvs k v).map (·.1) = if k ∈ kvs.map (·.1) then kvs.map (·.1) else kvs.map (·.1) ++ [k] := by
  have e : (kvs.any fun kv => decide (kv.1 = k)) = decide (k ∈ kvs.map (·.1)) := by
    rw [Bool.eq_iff_iff]
    simp only [List.any_eq_true, decide_eq_true_eq, List.mem_map]
  unfold dput
  rw [e]
  simp only [decide_eq_true_eq]
  split
  · rw [List.map_map]
    refine List.map_congr_left fun kv _ => ?_
    show (if kv.1 = k then (kv.1, v) else kv).1 = kv.1
    split <;> rfl
  · rw [List.map_append]; rfl
theorem dput_nodup {kvs : List (κ × α)} {k : κ} {v : α} (h : (kvs.map (·.1)).Nodup) : ((dput kvs k v).map (·.1)).Nodup := by
  rw [dput_keys]
  split
  · exact h
  · rename_i hk
    exact List.nodup_append.mpr ⟨h, by simp, fun a ha b hb => by
      have : b = k := by simpa using hb
      exact fun e => hk (this ▸ e ▸ ha)⟩
theorem dput_mem {kvs : List (κ × α)} {k : κ} {v : α} {e : κ × α} (h : e ∈ dput kvs k v) : e = (k, v) ∨ e ∈ kvs := by
  unfold dput at h
  split at h
  · obtain ⟨kv, hm, rfl⟩ := List.mem_map.mp h
    split
    · rename_i hk
      exact .inl (by rw [← hk])
    · exact .inr hm
  · rcases List.mem_append.mp h with h | h
    · exact .inr h
    · exact .inl (by simpa using h)
theorem dlook_some {kvs : List (κ × α)} {k : κ} (h : k ∈ kvs.map (·.1)) : ∃ v, dlook kvs k = some v ∧ (k, v) ∈ kvs := by
  obtain ⟨kv, hm, rfl⟩ := List.mem_map.mp h
  unfold dlook
  cases e : kvs.find? fun z => decide (z.1 = kv.1) with
  | none => exact absurd (by simp) (List.find?_eq_none.mp e kv hm)
  | some z =>
    have h1 := List.find?_some e
    have h2 := List.mem_of_find?_eq_some e
    have h3 : z.1 = kv.1 := by simpa using h1
    exact ⟨z.2, rfl, h3 ▸ h2⟩
theorem dlook_none {kvs : List (κ × α)} {k : κ} (h : k ∉ kvs.map (·.1)) : dlook kvs k = none := by
  unfold dlook
  rw [Option.map_eq_none_iff, List.find?_eq_none]
  intro z hz e
  exact h (List.mem_map.mpr ⟨z, hz, by simpa using e⟩)
end
theorem nodup_le {α : Type} [DecidableEq α] : ∀ {m l : List α}, l.Nodup → (∀ x ∈ l, x ∈ m) → l.length ≤ m.length
  | [], l, _, h => by
    cases l with
    | nil => simp
    | cons x l => exact absurd (h x (by simp)) (by simp)
  | a :: m, l, nd, h => by
    have h1 : (l.erase a).length ≤ m.length := nodup_le (nd.erase a) fun x hx => by
      have hx2 := (List.Nodup.mem_erase_iff nd).mp hx
      have := h x hx2.2
      rcases List.mem_cons.mp this with e | e
      · exact absurd e hx2.1
      · exact e
    have h2 : l.length ≤ (l.erase a).length + 1 := by
      rw [List.length_erase]
      split <;> omega
    rw [List.length_cons]
    omega
theorem keysS_map : ∀ l : List Str, keysS (l.map Sum.inr) = some l
  | [] => rfl
  | x :: l => by
    rw [List.map_cons]
    unfold keysS
    rw [keysS_map l]
    rfl
/-! ### calls with one owned argument -/
section
variable {os : List O} {i : Nat} {o o' : O} {f : List D → M D} {x : P} {e : Exn}
theorem pick1 (h : os[i]? = some o) (hf : o.flat = true) : pickO os [i] = some [o] := by
  unfold pickO
  rw [h]
  dsimp only
  rw [if_pos hf]
  rfl
theorem putB1 : putB os [i] [o'] = os.set i o' := by
  unfold putB
  rw [putB_nil]
theorem callD_1 {ds : List D} (hi : ownIds ds = [i]) (h : os[i]? = some o) (hf : o.flat = true) (hc : f (relab 0 ds) [o] = .ok (.p x) [o']) (hf' : o'.flat = true) : callD f ds os = .ok (.p x) (os.set i o') := by
  unfold callD
  rw [hi, pick1 h hf]
  dsimp only
  rw [if_pos (by simp), hc]
  dsimp only
  rw [if_pos ⟨rfl, by simp [hf']⟩, putB1]
theorem callD_1x {ds : List D} (hi : ownIds ds = [i]) (h : os[i]? = some o) (hf : o.flat = true) (hc : f (relab 0 ds) [o] = .ex e [o']) (hf' : o'.flat = true) : callD f ds os = .ex e (os.set i o') := by
  unfold callD
  rw [hi, pick1 h hf]
  dsimp only
  rw [if_pos (by simp), hc]
  dsimp only
  rw [if_pos ⟨rfl, by simp [hf']⟩, putB1]
variable {a b c d : P}
theorem call2pO (h : os[i]? = some o) (hf : o.flat = true) (hc : f [.p a, .own 0] [o] = .ok (.p x) [o']) (hf' : o'.flat = true) : callN 2 f [.p a, .own i] os = .ok (.p x) (os.set i o') := callD_1 (ds := [.p a, .own i]) rfl h hf hc hf'
theorem call2Op (h : os[i]? = some o) (hf : o.flat = true) (hc : f [.own 0, .p a] [o] = .ok (.p x) [o']) (hf' : o'.flat = true) : callN 2 f [.own i, .p a] os = .ok (.p x) (os.set i o') := callD_1 (ds := [.own i, .p a]) rfl h hf hc hf'
theorem call3ppO (h : os[i]? = some o) (hf : o.flat = true) (hc : f [.p a, .p b, .own 0] [o] = .ok (.p x) [o']) (hf' : o'.flat = true) : callN 3 f [.p a, .p b, .own i] os = .ok (.p x) (os.set i o') := callD_1 (ds := [.p a, .p b, .own i]) rfl h hf hc hf'
theorem call3Opp (h : os[i]? = some o) (hf : o.flat = true) (hc : f [.own 0, .p a, .p b] [o] = .ok (.p x) [o']) (hf' : o'.flat = true) : callN 3 f [.own i, .p a, .p b] os = .ok (.p x) (os.set i o') := callD_1 (ds := [.own i, .p a, .p b]) rfl h hf hc hf'
theorem call5O (h : os[i]? = some o) (hf : o.flat = true) (hc : f [.own 0, .p a, .p b, .p c, .p d] [o] = .ok (.p x) [o']) (hf' : o'.flat = true) : callN 5 f [.own i, .p a, .p b, .p c, .p d] os = .ok (.p x) (os.set i o') := callD_1 (ds := [.own i, .p a, .p b, .p c, .p d]) rfl h hf hc hf'
end
end DL
namespace DL
open PySem PySem.Spec
open PyProof.Rows L2
@[simp] theorem szl : sizeLine = 16777216 := sizeLine_eq
abbrev Ts := List (Str × Int)
/-- the program's formulas -/
inductive Fm where
  | tt | ff
  | least (ts : Ts) (b : Int)
  | rest (ts : Ts) (r m : Int)
  | neg (f : Fm)
  | con (f g : Fm)
  | dis (f g : Fm)
def eT (t : Str × Int) : P := .tup [.str t.1, .int t.2]
def eTs (ts : Ts) : P := .tup (ts.map eT)
def Fm.e : Fm → P
  | .tt => .tup [.str "true"]
  | .ff => .tup [.str "false"]
  | .least ts b => .tup [.str "least", eTs ts, .int b]
  | .rest ts r m => .tup [.str "rest", eTs ts, .int r, .int m]
  | .neg f => .tup [.str "not", f.e]
  | .con f g => .tup [.str "and", f.e, g.e]
  | .dis f g => .tup [.str "or", f.e, g.e]
def Fm.parts : Fm → List Fm
  | .neg f => [f]
  | .con f g => [f, g]
  | .dis f g => [f, g]
  | _ => []
def Fm.depth : Fm → Nat
  | .neg f => f.depth + 1
  | .con f g => max f.depth g.depth + 1
  | .dis f g => max f.depth g.depth + 1
  | _ => 1
end DL
namespace DL
open PySem PySem.Spec
open PyProof.Rows L2
theorem m_cell (ns : List Int) (k : Nat) : D__law_cell [.p (.scr ns), .p (.int k)] [] = .ok (.p (.int (ns.getD k 0))) [] := by
  unfold D__law_cell B__law_cell
  simp [atI_nat]
  by_cases h : k < ns.length
  · simp [h]
  · simp [h]
theorem m_parts (f : Fm) : D_parts_of [.p f.e] [] = .ok (.p (.lst (f.parts.map Fm.e))) [] := by
  unfold D_parts_of B_parts_of
  cases f <;> simp [Fm.e, Fm.parts, inFlat]
theorem parts_len (f : Fm) : f.parts.length ≤ 2 := by cases f <;> simp [Fm.parts]
theorem parts_sub {f g : Fm} (h : g ∈ f.parts) : g.depth + 1 ≤ f.depth := by
  cases f <;> simp [Fm.parts] at h
  · subst h; simp [Fm.depth]
  · rcases h with rfl | rfl <;> simp [Fm.depth] <;> omega
  · rcases h with rfl | rfl <;> simp [Fm.depth] <;> omega
theorem m_depth : ∀ (k : Nat) (f : Fm), f.depth ≤ k → D_depth k [.p f.e] [] = .ok (.p (.int f.depth)) []
  | 0, f, h => by cases f <;> simp [Fm.depth] at h
  | k + 1, f, h => by
    have ih := m_depth k
    have h2 := parts_len f
    unfold D_depth B_depth
    simp [m_parts]
    rw [lcS_M Fm.e (fun g => P.int g.depth) (by simp; omega) fun g hg => ?_]
    · simp [o_maxD]
      cases f <;> simp [Fm.parts, Fm.depth, maxI] <;> (try split) <;> omega
    · have := parts_sub hg
      exact ⟨_, rfl, by simp [wipeS, ih g (by omega)]⟩
end DL
namespace DL
open PySem PySem.Spec
open PyProof.Rows L2
def nms : List Str := ["b", "x", "y", "z1"]
theorem nms_all {p : Str → Prop} (h : ∀ a ∈ ["b", "x", "y", "z1"], p (Str.ofString a)) : ∀ n ∈ nms, p n := fun n hn => by
  simp [nms] at hn
  rcases hn with rfl | rfl | rfl | rfl
  · exact h "b" (by simp)
  · exact h "x" (by simp)
  · exact h "y" (by simp)
  · exact h "z1" (by simp)
theorem m_is_name {n : Str} (h : n ∈ nms) : D_is_name [.p (.str n)] [] = .ok (.p (.bl true)) [] := by
  refine nms_all (p := fun n => D_is_name [.p (.str n)] [] = .ok (.p (.bl true)) []) (fun a ha => ?_) n h
  unfold D_is_name B_is_name
  simp at ha
  rcases ha with rfl | rfl | rfl | rfl <;> simp [o_ixS, lcS, wipeS, atI_nat]
theorem m_is_variable {n : Str} (h : n ∈ nms) : D_is_variable [.p (.str n)] [] = .ok (.p (.bl true)) [] := by
  have h1 := m_is_name h
  unfold D_is_variable B_is_variable
  simp [nms] at h
  rcases h with rfl | rfl | rfl | rfl <;> simp [h1, inFlat]
theorem m_law_is_variable {n : Str} (h : n ∈ nms) : D__law_is_variable [.p (.str n)] [] = .ok (.p (.bl true)) [] := by
  refine nms_all (p := fun n => D__law_is_variable [.p (.str n)] [] = .ok (.p (.bl true)) []) (fun a ha => ?_) n h
  unfold D__law_is_variable B__law_is_variable
  simp at ha
  rcases ha with rfl | rfl | rfl | rfl <;> simp [o_ixS, lcS, wipeS, atI_nat, inFlat]
/-- terms as they are to be -/
structure WT (s : Int) (ts : Ts) : Prop where
  ne : 0 < ts.length
  le : ts.length ≤ 4
  nm : ∀ t ∈ ts, t.1 ∈ nms
  fa : ∀ t ∈ ts, -s ≤ t.2 ∧ t.2 ≤ s ∧ t.2 ≠ 0
  so : (ts.map (·.1)).Pairwise fun a b => ltS a b = true
theorem nms_ok {n : Str} (h : n ∈ nms) : PyData.strOk n = true := nms_all (p := fun n => PyData.strOk n = true) (fun a _ => strOk_lit a) n h
theorem ltS_le {a b : Str} (ha : a ∈ nms) (hb : b ∈ nms) (h : ltS a b = true) : leS a b = true ∧ a ≠ b ∧ ltS b a = false := by
  have : ∀ a ∈ nms, ∀ b ∈ nms, ltS a b = true → leS a b = true ∧ a ≠ b ∧ ltS b a = false := by decide +kernel
  exact this a ha b hb h
theorem le_ltS {a b : Str} (ha : a ∈ nms) (hb : b ∈ nms) (h : leS a b = true) (hn : a ≠ b) : ltS a b = true := by
  have : ∀ a ∈ nms, ∀ b ∈ nms, leS a b = true → a ≠ b → ltS a b = true := by decide +kernel
  exact this a ha b hb h hn
theorem WT.sorted {s : Int} {ts : Ts} (w : WT s ts) : sortS (ts.map (·.1)) = ts.map (·.1) := by
  unfold sortS
  refine List.mergeSort_of_pairwise ?_
  refine w.so.imp_of_mem fun {a b} ha hb h => ?_
  obtain ⟨t, ht, rfl⟩ := List.mem_map.mp ha
  obtain ⟨u, hu, rfl⟩ := List.mem_map.mp hb
  exact (ltS_le (w.nm t ht) (w.nm u hu) h).1
theorem WT.fit {s : Int} {ts : Ts} (w : WT s ts) : FitL 0 (ts.map fun t => P.str t.1) := fun p hp => by
  obtain ⟨t, ht, rfl⟩ := List.mem_map.mp hp
  exact .str 0 (nms_ok (w.nm t ht))
theorem WT.at {s : Int} {ts : Ts} (w : WT s ts) {k : Nat} (h : k < ts.length - 1) : ∃ a b : Str, atI (ts.map fun t => P.str t.1) (k : Int) = some (P.str a) ∧ atI (ts.map fun t => P.str t.1) (1 + (k : Int)) = some (P.str b) ∧ a ∈ nms ∧ b ∈ nms ∧ ltS a b = true := by
  have h1 : k < ts.length := by omega
  have h2 : k + 1 < ts.length := by omega
  refine ⟨ts[k].1, ts[k + 1].1, ?_, ?_, w.nm _ (List.getElem_mem h1), w.nm _ (List.getElem_mem h2), ?_⟩
  · rw [atI_nat, List.getElem?_map, List.getElem?_eq_getElem h1]; rfl
  · rw [show (1 : Int) + (k : Int) = ((k + 1 : Nat) : Int) by omega, atI_nat, List.getElem?_map, List.getElem?_eq_getElem h2]; rfl
  · have := List.pairwise_iff_getElem.mp w.so k (k + 1) (by simpa using h1) (by simpa using h2) (by omega)
    simpa using this
theorem m_are_terms {s : Int} {ts : Ts} (w : WT s ts) (hs : s ≤ 20) : D_are_terms [.p (eTs ts), .p (.int (-20)), .p (.int 20)] [] = .ok (.p (.bl true)) [] := by
  have h4 := w.le
  have h0 := w.ne
  unfold D_are_terms B_are_terms
  simp [eTs]
  rw [if_neg (by omega)]
  simp
  rw [lcS_M eT (fun t => P.str t.1) (by simp; omega) fun t ht => ⟨_, by simp [eT]; rfl, by simp [wipeS]⟩]
  simp
  rw [o_sortS (fun t : Str × Int => t.1) ts (by omega), w.sorted]
  simp
  have e1 : List.map (P.str ∘ fun x => x.fst) ts = List.map (fun t : Str × Int => P.str t.1) ts := rfl
  rw [e1, neX_self w.fit (by decide)]
  simp
  rw [lcS_M (fun t : Str × Int => P.str t.1) (fun t => P.bl true) (by simp; omega) fun t ht => ⟨_, rfl, by simp [wipeS, m_is_variable (w.nm t ht)]⟩]
  simp [rng_of (n := 1) (by decide) (by decide), rng_of (n := (ts.length : Int)) (by omega) (by omega), upto]
  rw [lcS_M (fun k : Nat => P.int (1 + (k : Int))) (fun t => P.bl true) (by simp; omega) fun k hk => ⟨_, rfl, by
    obtain ⟨a, b, h1, h2, ha, hb, hl⟩ := w.at (List.mem_range.mp hk)
    simp [wipeS, h1, h2, show 1 + (k : Int) - 1 = k by omega, (ltS_le ha hb hl).2.1.symm]⟩]
  simp
  rw [lcS_M eT (fun t => P.bl true) (by simp; omega) fun t ht => ⟨_, by simp [eT]; rfl, by
    have := w.fa t ht
    simp [wipeS, this.2.2, show -20 ≤ t.2 by omega, show t.2 ≤ 20 by omega]⟩]
  simp
theorem m_right_terms {s : Int} {ts : Ts} (w : WT s ts) (hs : s ≤ 20) : D__law_right_terms [.p (eTs ts), .p (.int (-20)), .p (.int 20)] [] = .ok (.p (.bl true)) [] := by
  have h4 := w.le
  have h0 := w.ne
  unfold D__law_right_terms B__law_right_terms
  simp [eTs]
  rw [lcS_M eT (fun t => P.str t.1) (by simp; omega) fun t ht => ⟨_, by simp [eT]; rfl, by simp [wipeS]⟩]
  simp [rng_of (n := 1) (by decide) (by decide), rng_of (n := (ts.length : Int)) (by omega) (by omega), upto]
  rw [eqX_nil w.fit (by decide)]
  have h5 : (ts.map fun t => P.str t.1).isEmpty = false := by simp; intro e; simp [e] at h0
  simp [h5, rng_of (n := 1) (by decide) (by decide), rng_of (n := (ts.length : Int)) (by omega) (by omega), upto]
  rw [lcS_E (fun k : Nat => P.int (1 + (k : Int))) (by simp; omega) fun k hk => ⟨_, rfl, by
    obtain ⟨a, b, h1, h2, ha, hb, hl⟩ := w.at (List.mem_range.mp hk)
    simp [wipeS, h1, h2, show 1 + (k : Int) - 1 = k by omega, hl]⟩]
  simp
  rw [lcS_E eT (by simp; omega) fun t ht => ⟨_, by simp [eT]; rfl, by
    have := w.fa t ht
    simp [wipeS, this.2.2, show -20 ≤ t.2 by omega, show t.2 ≤ 20 by omega, m_law_is_variable (w.nm t ht)]⟩]
  simp
end DL
namespace DL
open PySem PySem.Spec
open PyProof.Rows L2
def Fm.wt : Fm → Prop
  | .tt => True
  | .ff => True
  | .least ts _ => WT 20 ts
  | .rest ts _ _ => WT 20 ts
  | .neg f => f.wt
  | .con f g => f.wt ∧ g.wt
  | .dis f g => f.wt ∧ g.wt
def Fm.vp : Fm → Bool
  | .tt => true
  | .ff => true
  | .least _ b => decide (-20 ≤ b) && decide (b ≤ 20)
  | .rest _ r m => decide (2 ≤ m) && decide (m ≤ 20) && decide (0 ≤ r) && decide (r < m)
  | .neg f => f.vp
  | .con f g => f.vp && g.vp
  | .dis f g => f.vp && g.vp
theorem wt_sub {f g : Fm} (w : f.wt) (h : g ∈ f.parts) : g.wt := by
  cases f <;> simp [Fm.parts] at h
  · subst h; exact w
  · rcases h with rfl | rfl
    · exact w.1
    · exact w.2
  · rcases h with rfl | rfl
    · exact w.1
    · exact w.2
theorem fit_T {t : Str × Int} (h : PyData.strOk t.1 = true) : Fit 1 (eT t) := Fit.tup (.cons (.str 0 h) (.cons (.int 0 _) (.nil 0)))
theorem fit_Ts {ts : Ts} (w : WT 20 ts) : Fit 2 (eTs ts) := Fit.tup fun p hp => by
  obtain ⟨t, ht, rfl⟩ := List.mem_map.mp hp
  exact fit_T (nms_ok (w.nm t ht))
theorem Fm.fit : ∀ f : Fm, f.wt → Fit (f.depth + 2) f.e
  | .tt, _ => Fit.tup (.cons (.str _ (strOk_lit _)) (.nil _))
  | .ff, _ => Fit.tup (.cons (.str _ (strOk_lit _)) (.nil _))
  | .least ts b, w => Fit.tup (.cons (.str _ (strOk_lit _)) (.cons (fit_Ts w) (.cons (.int _ _) (.nil _))))
  | .rest ts r m, w => Fit.tup (.cons (.str _ (strOk_lit _)) (.cons (fit_Ts w) (.cons (.int _ _) (.cons (.int _ _) (.nil _)))))
  | .neg f, w => Fit.tup (.cons (.str _ (strOk_lit _)) (.cons (f.fit w) (.nil _)))
  | .con f g, w => Fit.tup (.cons (.str _ (strOk_lit _)) (.cons ((f.fit w.1).mono (by simp [Fm.depth]; omega)) (.cons ((g.fit w.2).mono (by simp [Fm.depth]; omega)) (.nil _))))
  | .dis f g, w => Fit.tup (.cons (.str _ (strOk_lit _)) (.cons ((f.fit w.1).mono (by simp [Fm.depth]; omega)) (.cons ((g.fit w.2).mono (by simp [Fm.depth]; omega)) (.nil _))))
theorem bb (b : Bool) (c : Prop) [Decidable c] : (if c then b else false) = (decide c && b) := by by_cases h : c <;> simp [h]
theorem m_valid : ∀ (k : Nat) (f : Fm), f.wt → f.depth ≤ k → D_has_valid_parts k [.p f.e] [] = .ok (.p (.bl f.vp)) []
  | 0, f, _, h => by cases f <;> simp [Fm.depth] at h
  | k + 1, f, w, h => by
    have ih := m_valid k
    have h2 := parts_len f
    have hp := m_parts f
    unfold D_has_valid_parts B_has_valid_parts
    cases f with
    | tt => simp [Fm.e, Fm.vp]
    | ff => simp [Fm.e, Fm.vp]
    | least ts b =>
      simp [Fm.e, Fm.vp, m_are_terms w (by decide)]
    | rest ts r m =>
      simp [Fm.e, Fm.vp]
      by_cases hc : (m < 2 ∨ 20 < m) ∨ r < 0 ∨ m ≤ r
      · simp [hc]
        omega
      · simp [hc, m_are_terms w (by decide)]
        omega
    | neg f =>
      simp [Fm.depth] at h
      simp only [Fm.e, Fm.parts, List.map_cons, List.map_nil] at hp
      simp [Fm.e, Fm.vp, inFlat, hp, lcS, wipeS, ih f w (by omega)]
    | con f g =>
      simp [Fm.depth] at h
      simp only [Fm.e, Fm.parts, List.map_cons, List.map_nil] at hp
      simp [Fm.e, Fm.vp, inFlat, hp, lcS, wipeS, ih f w.1 (by omega), ih g w.2 (by omega)]
    | dis f g =>
      simp [Fm.depth] at h
      simp only [Fm.e, Fm.parts, List.map_cons, List.map_nil] at hp
      simp [Fm.e, Fm.vp, inFlat, hp, lcS, wipeS, ih f w.1 (by omega), ih g w.2 (by omega)]
theorem m_right : ∀ (k : Nat) (f : Fm), f.wt → f.depth ≤ k → f.depth ≤ 60 → D__law_right_parts k [.p f.e] [] = .ok (.p (.bl f.vp)) []
  | 0, f, _, h, _ => by cases f <;> simp [Fm.depth] at h
  | k + 1, f, w, h, h60 => by
    have ih := m_right k
    unfold D__law_right_parts B__law_right_parts
    cases f with
    | tt => simp [Fm.e, Fm.vp, inFlat]
    | ff => simp [Fm.e, Fm.vp, inFlat]
    | least ts b =>
      simp [Fm.e, Fm.vp, inFlat, m_right_terms w (by decide)]
    | rest ts r m =>
      simp [Fm.e, Fm.vp, inFlat, m_right_terms w (by decide)]
      by_cases h1 : 2 ≤ m <;> by_cases h2 : m ≤ 20 <;> by_cases h3 : 0 ≤ r <;> by_cases h4 : r < m <;> simp [h1, h2, h3, h4] <;> omega
    | neg f =>
      simp [Fm.depth] at h h60
      have e1 := ih f w (by omega) (by omega)
      have f1 : Fit 63 f.e := (f.fit w).mono (by omega)
      cases hv : f.vp <;> simp [Fm.e, Fm.vp, inFlat, lcS, wipeS, e1, hv, eqX_nil (FitL.cons f1 (.nil _)) (by decide)]
    | con f g =>
      simp [Fm.depth] at h h60
      have e1 := ih f w.1 (by omega) (by omega)
      have e2 := ih g w.2 (by omega) (by omega)
      have f1 : Fit 63 f.e := (f.fit w.1).mono (by omega)
      have f2 : Fit 63 g.e := (g.fit w.2).mono (by omega)
      cases hv : f.vp <;> cases hv2 : g.vp <;> simp [Fm.e, Fm.vp, inFlat, lcS, wipeS, e1, e2, hv, hv2, eqX_nil (FitL.cons f1 (.nil _)) (by decide), eqX_nil (FitL.cons f2 (.nil _)) (by decide), eqX_nil (FitL.cons f1 (FitL.cons f2 (.nil _))) (by decide)]
    | dis f g =>
      simp [Fm.depth] at h h60
      have e1 := ih f w.1 (by omega) (by omega)
      have e2 := ih g w.2 (by omega) (by omega)
      have f1 : Fit 63 f.e := (f.fit w.1).mono (by omega)
      have f2 : Fit 63 g.e := (g.fit w.2).mono (by omega)
      cases hv : f.vp <;> cases hv2 : g.vp <;> simp [Fm.e, Fm.vp, inFlat, lcS, wipeS, e1, e2, hv, hv2, eqX_nil (FitL.cons f1 (.nil _)) (by decide), eqX_nil (FitL.cons f2 (.nil _)) (by decide), eqX_nil (FitL.cons f1 (FitL.cons f2 (.nil _))) (by decide)]
theorem m_ldepth : ∀ (k : Nat) (f : Fm), f.depth ≤ k → D__law_depth k [.p f.e] [] = .ok (.p (.int f.depth)) []
  | 0, f, h => by cases f <;> simp [Fm.depth] at h
  | k + 1, f, h => by
    have ih := m_ldepth k
    unfold D__law_depth B__law_depth
    cases f with
    | tt => simp [Fm.e, Fm.depth, inFlat]
    | ff => simp [Fm.e, Fm.depth, inFlat]
    | least ts b => simp [Fm.e, Fm.depth, inFlat]
    | rest ts r m => simp [Fm.e, Fm.depth, inFlat]
    | neg f =>
      simp [Fm.depth] at h
      simp [Fm.e, Fm.depth, inFlat, lcS, wipeS, ih f (by omega), maxI]
      try omega
    | con f g =>
      simp [Fm.depth] at h
      simp [Fm.e, Fm.depth, inFlat, lcS, wipeS, ih f (by omega), ih g (by omega), maxI]
      (try split) <;> omega
    | dis f g =>
      simp [Fm.depth] at h
      simp [Fm.e, Fm.depth, inFlat, lcS, wipeS, ih f (by omega), ih g (by omega), maxI]
      (try split) <;> omega
end DL
namespace DL
open PySem PySem.Spec
open PyProof.Rows L2
/-! ### opposite -/
def ngT (t : Str × Int) : Str × Int := (t.1, -t.2)
def Fm.opp : Fm → Fm
  | .tt => .ff
  | .ff => .tt
  | .least ts b => .least (ts.map ngT) (1 - b)
  | .rest ts r m => .neg (.rest ts r m)
  | .neg f => f
  | .con f g => .dis f.opp g.opp
  | .dis f g => .con f.opp g.opp
theorem WT.neg {s : Int} {ts : Ts} (w : WT s ts) : WT s (ts.map ngT) where
  ne := by simpa using w.ne
  le := by simpa using w.le
  nm := fun t ht => by
    obtain ⟨u, hu, rfl⟩ := List.mem_map.mp ht
    exact w.nm u hu
  fa := fun t ht => by
    obtain ⟨u, hu, rfl⟩ := List.mem_map.mp ht
    have := w.fa u hu
    show -s ≤ -u.2 ∧ -u.2 ≤ s ∧ -u.2 ≠ 0
    omega
  so := by
    rw [List.map_map]
    exact w.so
theorem Fm.opp_wt : ∀ f : Fm, f.wt → f.opp.wt
  | .tt, _ => trivial
  | .ff, _ => trivial
  | .least ts b, w => WT.neg w
  | .rest ts r m, w => w
  | .neg f, w => w
  | .con f g, w => ⟨f.opp_wt w.1, g.opp_wt w.2⟩
  | .dis f g, w => ⟨f.opp_wt w.1, g.opp_wt w.2⟩
theorem Fm.opp_depth : ∀ f : Fm, f.opp.depth ≤ f.depth + 1
  | .tt => by simp [Fm.opp, Fm.depth]
  | .ff => by simp [Fm.opp, Fm.depth]
  | .least ts b => by simp [Fm.opp, Fm.depth]
  | .rest ts r m => by simp [Fm.opp, Fm.depth]
  | .neg f => by simp [Fm.opp, Fm.depth]; omega
  | .con f g => by
    have := f.opp_depth
    have := g.opp_depth
    simp [Fm.opp, Fm.depth]
    omega
  | .dis f g => by
    have := f.opp_depth
    have := g.opp_depth
    simp [Fm.opp, Fm.depth]
    omega
theorem m_opposite : ∀ (k : Nat) (f : Fm), f.wt → f.depth ≤ k → D_opposite k [.p f.e] [] = .ok (.p f.opp.e) []
  | 0, f, _, h => by cases f <;> simp [Fm.depth] at h
  | k + 1, f, w, h => by
    have ih := m_opposite k
    unfold D_opposite B_opposite
    cases f with
    | tt => simp [Fm.e, Fm.opp, inFlat, kixV, List.lookup]
    | ff => simp [Fm.e, Fm.opp, inFlat, kixV, List.lookup]
    | least ts b =>
      have h4 := WT.le w
      simp [Fm.e, Fm.opp, eTs]
      rw [lcS_M eT (fun t => eT (ngT t)) (by simp; omega) fun t ht => ⟨_, by simp [eT]; rfl, by simp [wipeS, eT, ngT]⟩]
      simp [Function.comp_def]
    | rest ts r m => simp [Fm.e, Fm.opp]
    | neg f => simp [Fm.e, Fm.opp]
    | con f g =>
      simp [Fm.depth] at h
      simp [Fm.e, Fm.opp, inFlat, kixV, List.lookup, ih f w.1 (by omega), ih g w.2 (by omega)]
    | dis f g =>
      simp [Fm.depth] at h
      simp [Fm.e, Fm.opp, inFlat, kixV, List.lookup, ih f w.1 (by omega), ih g w.2 (by omega)]
theorem m_lopposite : ∀ (k : Nat) (f : Fm), f.wt → f.depth ≤ k → D__law_opposite k [.p f.e] [] = .ok (.p f.opp.e) []
  | 0, f, _, h => by cases f <;> simp [Fm.depth] at h
  | k + 1, f, w, h => by
    have ih := m_lopposite k
    unfold D__law_opposite B__law_opposite
    cases f with
    | tt => simp [Fm.e, Fm.opp, inFlat]
    | ff => simp [Fm.e, Fm.opp, inFlat]
    | least ts b =>
      have h4 := WT.le w
      simp [Fm.e, Fm.opp, eTs]
      rw [lcS_M eT (fun t => eT (ngT t)) (by simp; omega) fun t ht => ⟨_, by simp [eT]; rfl, by simp [wipeS, eT, ngT]⟩]
      simp [Function.comp_def]
    | rest ts r m => simp [Fm.e, Fm.opp]
    | neg f => simp [Fm.e, Fm.opp]
    | con f g =>
      simp [Fm.depth] at h
      simp [Fm.e, Fm.opp, inFlat, ih f w.1 (by omega), ih g w.2 (by omega)]
    | dis f g =>
      simp [Fm.depth] at h
      simp [Fm.e, Fm.opp, inFlat, ih f w.1 (by omega), ih g w.2 (by omega)]
/-! ### the names -/
structure KV (kvs : List (Key × P)) : Prop where
  nd : (kvs.map (·.1)).Nodup
  nm : ∀ k ∈ kvs.map (·.1), ∃ n ∈ nms, k = .inr n
theorem KV.len {kvs : List (Key × P)} (h : KV kvs) : kvs.length ≤ 4 := by
  have := nodup_le (m := nms.map Sum.inr) h.nd fun k hk => by
    obtain ⟨n, hn, rfl⟩ := h.nm k hk
    exact List.mem_map.mpr ⟨n, hn, rfl⟩
  simpa [nms] using this
theorem KV.put {kvs : List (Key × P)} (h : KV kvs) {n : Str} (hn : n ∈ nms) (x : P) : KV (dput kvs (.inr n) x) where
  nd := dput_nodup h.nd
  nm := fun k hk => by
    rw [dput_keys] at hk
    split at hk
    · exact h.nm k hk
    · rcases List.mem_append.mp hk with hk | hk
      · exact h.nm k hk
      · exact ⟨n, hn, by simpa using hk⟩
theorem KV.strs {kvs : List (Key × P)} (h : KV kvs) : ∃ ss : List Str, kvs.map (·.1) = ss.map Sum.inr ∧ ss.length ≤ 4 ∧ ss.Nodup ∧ ∀ n ∈ ss, n ∈ nms := by
  have hl := h.len
  obtain ⟨nd, nm⟩ := h
  have e : ∀ ks : List Key, (∀ k ∈ ks, ∃ n ∈ nms, k = .inr n) → ∃ ss : List Str, ks = ss.map Sum.inr ∧ ∀ n ∈ ss, n ∈ nms := fun ks => by
    induction ks with
    | nil => exact fun _ => ⟨[], rfl, fun n hn => by cases hn⟩
    | cons k ks ih =>
      intro hk
      obtain ⟨ss, rfl, h2⟩ := ih fun q hq => hk q (by simp [hq])
      obtain ⟨n, hn, rfl⟩ := hk k (by simp)
      exact ⟨n :: ss, rfl, fun m hm => by
        rcases List.mem_cons.mp hm with rfl | hm
        · exact hn
        · exact h2 m hm⟩
  obtain ⟨ss, e1, e2⟩ := e _ nm
  have l2 := congrArg List.length e1
  simp at l2
  refine ⟨ss, e1, by omega, ?_, e2⟩
  rw [e1] at nd
  exact (List.pairwise_map.mp nd).imp fun h e => h (by rw [e])
theorem m_collect : ∀ (k : Nat) (f : Fm) (kvs : List (Key × P)), f.wt → f.depth ≤ k → KV kvs → ∃ kvs', D_collect k [.p f.e, .own 0] [.dK kvs] = .ok (.p .non) [.dK kvs'] ∧ KV kvs'
  | 0, f, _, _, h, _ => by cases f <;> simp [Fm.depth] at h
  | k + 1, f, kvs, w, h, hk => by
    have ih := m_collect k
    have hpt := m_parts f
    -- the terms
    have terms : ∀ (ts : Ts) (S : Sl) (x0 : Option D), WT 20 ts → (∃ a2 a3 a4, S = [x0, some (.own 0), a2, a3, a4]) → ∃ S' os', forS (unp 2 (consT (nam 3) (consT (nam 4) nilT))) (sto (var 1) (var 3) (cst (.bl true))) (ts.map eT) S [.dK kvs] = .ok (.nx S') os' ∧ ∃ a2 a3 a4 kvs', S' = [x0, some (.own 0), a2, a3, a4] ∧ os' = [.dK kvs'] ∧ KV kvs' := fun ts S x0 wt ⟨a2, a3, a4, hS⟩ => by
      refine for_inv (fun S2 os => ∃ a2 a3 a4 kvs, S2 = [x0, some (.own 0), a2, a3, a4] ∧ os = [.dK kvs] ∧ KV kvs) (fun p hp S2 os ⟨a2, a3, a4, kvs, e1, e2, e3⟩ => ?_) ⟨a2, a3, a4, kvs, hS, rfl, hk⟩
      obtain ⟨t, ht, rfl⟩ := List.mem_map.mp hp
      have hl := e3.len
      subst e1 e2
      exact ⟨_, by simp [eT]; rfl, _, _, .inl (by simp [setV, keyP, show kvs.length < 16777216 by omega]; and_intros <;> rfl), _, _, _, _, rfl, rfl, e3.put (wt.nm t ht) _⟩
    have parts : ∀ (gs : List Fm) (S : Sl) (kvs : List (Key × P)), KV kvs → (∀ g ∈ gs, g.wt ∧ g.depth ≤ k) → (∃ a0 a2 a3 a4, S = [a0, some (.own 0), a2, a3, a4]) → ∃ S' os', forS (nam 2) (drp (opN (callN 2 (D_collect k)) (consA (var 2) (consA (var 1) nilA)))) (gs.map Fm.e) S [.dK kvs] = .ok (.nx S') os' ∧ ∃ a0 a2 a3 a4 kvs', S' = [a0, some (.own 0), a2, a3, a4] ∧ os' = [.dK kvs'] ∧ KV kvs' := fun gs S kvs hk hg ⟨a0, a2, a3, a4, hS⟩ => by
      refine for_inv (fun S2 os => ∃ a0 a2 a3 a4 kvs, S2 = [a0, some (.own 0), a2, a3, a4] ∧ os = [.dK kvs] ∧ KV kvs) (fun p hp S2 os ⟨a0, a2, a3, a4, kvs, e1, e2, e3⟩ => ?_) ⟨a0, a2, a3, a4, kvs, hS, rfl, hk⟩
      obtain ⟨g, hm, rfl⟩ := List.mem_map.mp hp
      obtain ⟨kvs', h1, h2⟩ := ih g kvs (hg g hm).1 (hg g hm).2 e3
      subst e1 e2
      exact ⟨_, rfl, _, _, .inl (by simp [call2pO (os := [.dK kvs]) (i := 0) rfl rfl h1 rfl]; and_intros <;> rfl), _, _, _, _, _, rfl, rfl, h2⟩
    have hsub : ∀ g ∈ f.parts, g.wt ∧ g.depth ≤ k := fun g hg => ⟨wt_sub w hg, by have := parts_sub hg; omega⟩
    unfold D_collect B_collect
    have fin : ∀ S, (∃ a2 a3 a4, S = [some (.p f.e), some (.own 0), a2, a3, a4]) → ∀ kvs, KV kvs → ∃ kvs', trimR 1 (for' (op1 itsA (opN (callN 1 D_parts_of) (consA (var 0) nilA))) (nam 2) (drp (opN (callN 2 (D_collect k)) (consA (var 2) (consA (var 1) nilA)))) S [.dK kvs]) = .ok (.p .non) [.dK kvs'] ∧ KV kvs' := fun S ⟨a2, a3, a4, hS⟩ kvs hk => by
      obtain ⟨S', os', h1, a0, b2, b3, b4, kvs', h2, h3, h4⟩ := parts f.parts S kvs hk hsub ⟨_, a2, a3, a4, hS⟩
      refine ⟨kvs', ?_, h4⟩
      subst hS h3
      simp [hpt, h1]
      rfl
    cases f with
    | tt =>
      obtain ⟨kvs', h1, h2⟩ := fin [some (.p Fm.tt.e), some (.own 0), none, none, none] ⟨_, _, _, rfl⟩ kvs hk
      refine ⟨kvs', ?_, h2⟩
      rw [← h1]
      simp [Fm.e, inFlat]
    | ff =>
      obtain ⟨kvs', h1, h2⟩ := fin [some (.p Fm.ff.e), some (.own 0), none, none, none] ⟨_, _, _, rfl⟩ kvs hk
      refine ⟨kvs', ?_, h2⟩
      rw [← h1]
      simp [Fm.e, inFlat]
    | least ts b =>
      obtain ⟨S', os', t1, a2, a3, a4, kvs1, t2, t3, t4⟩ := terms ts [some (.p (Fm.least ts b).e), some (.own 0), none, none, none] _ w ⟨_, _, _, rfl⟩
      obtain ⟨kvs', h1, h2⟩ := fin S' ⟨_, _, _, t2⟩ kvs1 t4
      refine ⟨kvs', ?_, h2⟩
      rw [← h1]
      subst t2 t3
      simp [Fm.e, eTs] at t1
      simp [Fm.e, inFlat, eTs, t1]
    | rest ts r m =>
      obtain ⟨S', os', t1, a2, a3, a4, kvs1, t2, t3, t4⟩ := terms ts [some (.p (Fm.rest ts r m).e), some (.own 0), none, none, none] _ w ⟨_, _, _, rfl⟩
      obtain ⟨kvs', h1, h2⟩ := fin S' ⟨_, _, _, t2⟩ kvs1 t4
      refine ⟨kvs', ?_, h2⟩
      rw [← h1]
      subst t2 t3
      simp [Fm.e, eTs] at t1
      simp [Fm.e, inFlat, eTs, t1]
    | neg f =>
      obtain ⟨kvs', h1, h2⟩ := fin [some (.p (Fm.neg f).e), some (.own 0), none, none, none] ⟨_, _, _, rfl⟩ kvs hk
      refine ⟨kvs', ?_, h2⟩
      rw [← h1]
      simp [Fm.e, inFlat]
    | con f g =>
      obtain ⟨kvs', h1, h2⟩ := fin [some (.p (Fm.con f g).e), some (.own 0), none, none, none] ⟨_, _, _, rfl⟩ kvs hk
      refine ⟨kvs', ?_, h2⟩
      rw [← h1]
      simp [Fm.e, inFlat]
    | dis f g =>
      obtain ⟨kvs', h1, h2⟩ := fin [some (.p (Fm.dis f g).e), some (.own 0), none, none, none] ⟨_, _, _, rfl⟩ kvs hk
      refine ⟨kvs', ?_, h2⟩
      rw [← h1]
      simp [Fm.e, inFlat]
theorem m_variables (f : Fm) (w : f.wt) (h : f.depth ≤ 20) : ∃ ss : List Str, D_variables [.p f.e] [] = .ok (.p (.lst (ss.map P.str))) [] ∧ ss.length ≤ 4 := by
  obtain ⟨kvs, h1, h2⟩ := m_collect 20 f [] w h ⟨by simp, fun k hk => by simp at hk⟩
  obtain ⟨ss, e1, e2, e3, e4⟩ := h2.strs
  have hk : keysS (kvs.map (·.1)) = some ss := by rw [e1, keysS_map]
  refine ⟨sortS ss, ?_, by unfold sortS; rw [List.length_mergeSort]; exact e2⟩
  unfold D_variables B_variables
  simp [call2pO (os := [.dK []]) (i := 0) rfl rfl h1 rfl, sortedV, dctOf, hk, show ss.length < 64 by omega]
/-! ### the law's names -/
structure NL (ss : List Str) : Prop where
  nd : ss.Nodup
  nm : ∀ n ∈ ss, n ∈ nms
theorem NL.len {ss : List Str} (h : NL ss) : ss.length ≤ 4 := nodup_le (m := nms) h.nd h.nm
theorem NL.sort {ss : List Str} (h : NL ss) : NL (sortS ss) := ⟨(List.mergeSort_perm ss leS).nodup_iff.mpr h.nd, fun n hn => h.nm n ((List.mergeSort_perm ss leS).mem_iff.mp hn)⟩
theorem WT.nl {s : Int} {ts : Ts} (w : WT s ts) : NL (ts.map (·.1)) := ⟨w.so.imp_of_mem fun {a b} ha hb h => by
  obtain ⟨t, ht, rfl⟩ := List.mem_map.mp ha
  obtain ⟨u, hu, rfl⟩ := List.mem_map.mp hb
  exact (ltS_le (w.nm t ht) (w.nm u hu) h).2.1, fun n hn => by
  obtain ⟨t, ht, rfl⟩ := List.mem_map.mp hn
  exact w.nm t ht⟩
theorem NL.add {ss ts : List Str} (h : NL ss) (h2 : NL ts) : NL (ss ++ ts.filter fun n => !decide (n ∈ ss)) := ⟨List.nodup_append.mpr ⟨h.nd, h2.nd.filter _, fun a ha b hb e => by
  have := (List.mem_filter.mp hb).2
  subst e
  simp [ha] at this⟩, fun n hn => by
  rcases List.mem_append.mp hn with hn | hn
  · exact h.nm n hn
  · exact h2.nm n (List.mem_filter.mp hn).1⟩
theorem m_lvars : ∀ (k : Nat) (f : Fm), f.wt → f.depth ≤ k → ∃ ss : List Str, D__law_vars k [.p f.e] [] = .ok (.p (.lst (ss.map P.str))) [] ∧ NL ss
  | 0, f, _, h => by cases f <;> simp [Fm.depth] at h
  | k + 1, f, w, h => by
    have ih := m_lvars k
    have hsub : ∀ g ∈ f.parts, g.wt ∧ g.depth ≤ k := fun g hg => ⟨wt_sub w hg, by have := parts_sub hg; omega⟩
    have terms : ∀ ts : Ts, WT 20 ts → ∀ S : Sl, (∃ a0 a1 a2 a3 a4, S = [a0, a1, a2, a3, a4]) → lcS (unp 2 (consT (nam 3) (consT (nam 4) nilT))) yesB (var 3) (ts.map eT) [] S [] = .ok (ts.map fun t => P.str t.1) [] := fun ts wt S ⟨a0, a1, a2, a3, a4, hS⟩ => by
      have := wt.le
      subst hS
      exact lcS_M eT (fun t => P.str t.1) (by simp; omega) fun t ht => ⟨_, by simp [eT]; rfl, by simp⟩
    have loop : ∀ (gs : List Fm) (x0 : Option D), (∀ g ∈ gs, g.wt ∧ g.depth ≤ k) → ∃ S' os', forS (nam 2) (asg (op2 addV (var 1) (frzF (lc (op1 itsA (opN (callN 1 (D__law_vars k)) (consA (var 2) nilA))) [3] (nam 3) (tst (op2 notinV (var 3) (var 1))) (var 3)))) (nam 1)) (gs.map Fm.e) [x0, some (.p (.lst [])), none, none, none] [] = .ok (.nx S') os' ∧
        ∃ ss a2 a3 a4, S' = [x0, some (.p (.lst (List.map P.str ss))), a2, a3, a4] ∧ os' = [] ∧ NL ss := fun gs x0 hg => by
      refine for_inv (fun S2 os => ∃ ss a2 a3 a4, S2 = [x0, some (.p (.lst (List.map P.str ss))), a2, a3, a4] ∧ os = [] ∧ NL ss) (fun p hp S2 os ⟨ss, a2, a3, a4, e1, e2, e3⟩ => ?_) ⟨[], none, none, none, rfl, rfl, ⟨.nil, fun n hn => by cases hn⟩⟩
      obtain ⟨g, hm, rfl⟩ := List.mem_map.mp hp
      obtain ⟨ts, h1, h2⟩ := ih g (hg g hm).1 (hg g hm).2
      have l1 := e3.len
      have l2 := h2.len
      have l3 := (e3.add h2).len
      rw [List.length_append] at l3
      subst e1 e2
      refine ⟨_, rfl, [x0, some (.p (.lst (List.map P.str (ss ++ ts.filter fun n => !decide (n ∈ ss))))), some (.p g.e), a3, a4], [], .inl ?_, _, _, _, _, rfl, rfl, e3.add h2⟩
      simp [h1]
      rw [lcS_F P.str (fun n => !decide (n ∈ ss)) P.str (by simp; omega) fun n hn => ⟨_, rfl, by simp [wipeS], fun _ => by simp [wipeS]⟩]
      simp
      rw [if_pos (by omega)]
      simp
    unfold D__law_vars B__law_vars
    cases f with
    | tt => exact ⟨[], by simp [Fm.e, inFlat], ⟨.nil, fun n hn => by cases hn⟩⟩
    | ff => exact ⟨[], by simp [Fm.e, inFlat], ⟨.nil, fun n hn => by cases hn⟩⟩
    | least ts b =>
      have h4 := WT.le w
      refine ⟨sortS (ts.map (·.1)), ?_, (WT.nl w).sort⟩
      simp [Fm.e, inFlat, eTs, wipeS]
      rw [terms ts w _ ⟨_, _, _, _, _, rfl⟩]
      simp
      rw [o_sortS (fun t : Str × Int => t.1) ts (by omega)]
      simp
    | rest ts r m =>
      have h4 := WT.le w
      refine ⟨sortS (ts.map (·.1)), ?_, (WT.nl w).sort⟩
      simp [Fm.e, inFlat, eTs, wipeS]
      rw [terms ts w _ ⟨_, _, _, _, _, rfl⟩]
      simp
      rw [o_sortS (fun t : Str × Int => t.1) ts (by omega)]
      simp
    | neg f =>
      obtain ⟨S', os', h1, ss, a2, a3, a4, h2, h3, h4⟩ := loop [f] (some (.p (Fm.neg f).e)) hsub
      have h5 := h4.len
      refine ⟨sortS ss, ?_, h4.sort⟩
      subst h2 h3
      simp [-for_cons, Fm.e] at h1
      simp [-for_cons, Fm.e, inFlat, h1]
      rw [o_sortL ss (by omega)]
      simp
    | con f g =>
      obtain ⟨S', os', h1, ss, a2, a3, a4, h2, h3, h4⟩ := loop [f, g] (some (.p (Fm.con f g).e)) hsub
      have h5 := h4.len
      refine ⟨sortS ss, ?_, h4.sort⟩
      subst h2 h3
      simp [-for_cons, Fm.e] at h1
      simp [-for_cons, Fm.e, inFlat, h1]
      rw [o_sortL ss (by omega)]
      simp
    | dis f g =>
      obtain ⟨S', os', h1, ss, a2, a3, a4, h2, h3, h4⟩ := loop [f, g] (some (.p (Fm.dis f g).e)) hsub
      have h5 := h4.len
      refine ⟨sortS ss, ?_, h4.sort⟩
      subst h2 h3
      simp [-for_cons, Fm.e] at h1
      simp [-for_cons, Fm.e, inFlat, h1]
      rw [o_sortL ss (by omega)]
      simp
/-! ### right formulas -/
def Fm.ok (f : Fm) : Bool := f.vp && decide (f.depth ≤ 8)
theorem m_is_formula (f : Fm) (w : f.wt) (h : f.depth ≤ 20) : D_is_formula [.p f.e] [] = .ok (.p (.bl f.ok)) [] := by
  obtain ⟨ss, h1, h2⟩ := m_variables f w h
  unfold D_is_formula B_is_formula
  simp [m_valid 20 f w h, m_depth 20 f h, h1, Fm.ok, show (ss.length : Int) ≤ 8 by omega]
  have e : ((f.depth : Int) ≤ 8) = (f.depth ≤ 8) := propext ⟨fun h => by omega, fun h => by omega⟩
  simp [e]
  cases f.vp <;> simp
  intro h8
  omega
theorem m_lis_formula (f : Fm) (w : f.wt) (h : f.depth ≤ 20) : D__law_is_formula [.p f.e] [] = .ok (.p (.bl f.ok)) [] := by
  obtain ⟨ss, h1, h2⟩ := m_lvars 20 f w h
  have h3 := h2.len
  unfold D__law_is_formula B__law_is_formula
  simp [m_right 20 f w h (by omega), m_ldepth 20 f h, h1, Fm.ok, show (ss.length : Int) ≤ 8 by omega]
  have e : ((f.depth : Int) ≤ 8) = (f.depth ≤ 8) := propext ⟨fun h => by omega, fun h => by omega⟩
  simp [e]
  cases f.vp <;> simp
  intro h8
  omega
def Fm.ref : P := .tup [.str "refused"]
def Fm.told (f : Fm) : P := if f.ok = true then f.e else Fm.ref
theorem m_negated (f : Fm) (w : f.wt) (h : f.depth ≤ 19) : D_negated [.p f.e] [] = if f.opp.ok = true then .ok (.p f.opp.e) [] else .ex ⟨"InvalidFormula", none⟩ [] := by
  have h2 := f.opp_depth
  unfold D_negated B_negated
  have hd : D_demand_formula [.p f.opp.e] [] = if f.opp.ok = true then .ok (.p f.opp.e) [] else .ex ⟨"InvalidFormula", none⟩ [] := by
    unfold D_demand_formula B_demand_formula
    cases hv : f.opp.ok <;> simp [m_is_formula f.opp (f.opp_wt w) (by omega), hv]
  cases hv : f.opp.ok <;> simp [m_opposite 20 f w (by omega), hd, hv]
theorem m_told (f : Fm) (w : f.wt) (h : f.depth ≤ 19) : D__law_told_rewritten [.p f.e, .p (.int 0), .own 0] [.dK []] = .ok (.p f.opp.told) [.dK []] := by
  unfold D__law_told_rewritten B__law_told_rewritten
  have hn := m_negated f w h
  cases hv : f.opp.ok <;> simp [hn, hv, Fm.told, exTab, Fm.ref, trimR, O.flat]
theorem m_or (f : Fm) (w : f.wt) (h : f.depth ≤ 20) : D__law_or_refused [.p f.e] [] = .ok (.p f.told) [] := by
  unfold D__law_or_refused B__law_or_refused
  cases hv : f.ok <;> simp [m_lis_formula f w h, hv, Fm.told, Fm.ref]
end DL
namespace DL
open PySem PySem.Spec
open PyProof.Rows L2
/-! ### the same -/
inductive Pl : Nat → P → Prop where
  | int (n : Nat) (i : Int) : Pl n (.int i)
  | str (n : Nat) (x : Str) : Pl n (.str x)
  | tup {n : Nat} {ps : List P} (h : ∀ p ∈ ps, Pl n p) (hl : ps.length ≤ 10) : Pl (n + 1) (.tup ps)
theorem Pl.mono {n m : Nat} {p : P} (h : Pl n p) (hm : n ≤ m) : Pl m p := by
  induction h generalizing m with
  | int n i => exact .int _ _
  | str n x => exact .str _ _
  | tup h hl ih =>
    obtain ⟨m, rfl⟩ : ∃ k, m = k + 1 := ⟨m - 1, by omega⟩
    exact .tup (fun p hp => ih p hp (by omega)) hl
theorem pl2 {n : Nat} {a b : P} (h : Pl n a) (h2 : Pl n b) : ∀ p ∈ [a, b], Pl n p := by
  simp; exact ⟨h, h2⟩
theorem WT.pl {s : Int} {ts : Ts} (w : WT s ts) (n : Nat) : Pl (n + 2) (eTs ts) := .tup (fun p hp => by
  obtain ⟨t, ht, rfl⟩ := List.mem_map.mp hp
  exact .tup (pl2 (.str _ _) (.int _ _)) (by simp)) (by have := w.le; simp; omega)
theorem Fm.pl : ∀ f : Fm, f.wt → Pl (f.depth + 2) f.e
  | .tt, _ => .tup (by simp; exact .str _ _) (by simp)
  | .ff, _ => .tup (by simp; exact .str _ _) (by simp)
  | .least ts b, w => .tup (by simp; exact ⟨.str _ _, WT.pl w 0, .int _ _⟩) (by simp)
  | .rest ts r m, w => .tup (by simp; exact ⟨.str _ _, WT.pl w 0, .int _ _, .int _ _⟩) (by simp)
  | .neg f, w => .tup (by simp; exact ⟨.str _ _, f.pl w⟩) (by simp)
  | .con f g, w => .tup (by simp; exact ⟨.str _ _, (f.pl w.1).mono (by simp [Fm.depth]; omega), (g.pl w.2).mono (by simp [Fm.depth]; omega)⟩) (by simp)
  | .dis f g, w => .tup (by simp; exact ⟨.str _ _, (f.pl w.1).mono (by simp [Fm.depth]; omega), (g.pl w.2).mono (by simp [Fm.depth]; omega)⟩) (by simp)
theorem m_plainly : ∀ (k n : Nat) (p : P), Pl n p → n < k → D__law_plainly k [.p p, .p p] [] = .ok (.p (.bl true)) []
  | 0, n, p, _, h => by omega
  | k + 1, n, p, hp, h => by
    have ih := m_plainly k
    unfold D__law_plainly B__law_plainly
    cases hp with
    | int n i => simp [isTab]
    | str n x => simp [isTab]
    | @tup n ps hps hl =>
      simp [isTab, rng_of (n := (ps.length : Int)) (by omega) (by omega), upto]
      rw [lcS_E (fun k : Nat => P.int (k : Int)) (by simp; omega) fun j hj => ⟨_, rfl, by
        have hj2 := List.mem_range.mp hj
        have e : ps[j]? = some ps[j] := List.getElem?_eq_getElem hj2
        simp [wipeS, atI_nat, e, ih n ps[j] (hps _ (List.getElem_mem hj2)) (by omega)]⟩]
      simp
theorem Fm.told_pl (f : Fm) (w : f.wt) (h : f.depth ≤ 12) : Pl 15 f.told := by
  unfold Fm.told
  split
  · exact (f.pl w).mono (by omega)
  · exact .tup (by simp; exact .str _ _) (by simp)
theorem m_eqS (k : Nat) (a b : Str) : D__law_equal (k + 1) [.p (.str a), .p (.str b)] [] = .ok (.p (.bl (decide (a = b)))) [] := by
  unfold D__law_equal B__law_equal
  simp [isTab]
theorem m_eqRef (f : Fm) : D__law_equal 20 [.p f.e, .p Fm.ref] [] = .ok (.p (.bl false)) [] := by
  have h := m_eqS 18
  show D__law_equal (19 + 1) _ _ = _
  unfold D__law_equal B__law_equal
  have r1 := rng_of (n := 1) (by decide) (by decide)
  cases f <;> simp [isTab, Fm.e, Fm.ref, r1, upto, lcS, wipeS, h]
theorem m_eqRR : D__law_equal 20 [.p Fm.ref, .p Fm.ref] [] = .ok (.p (.bl true)) [] := by
  have h := m_eqS 18
  show D__law_equal (19 + 1) _ _ = _
  unfold D__law_equal B__law_equal
  have r1 := rng_of (n := 1) (by decide) (by decide)
  simp [isTab, Fm.ref, r1, upto, lcS, wipeS, h]
theorem m_eqTold (f : Fm) : D__law_equal 20 [.p f.told, .p Fm.ref] [] = .ok (.p (.bl (!f.ok))) [] := by
  unfold Fm.told
  cases f.ok <;> simp [m_eqRef, m_eqRR]
/-! ### draws -/
theorem mod_r (a b : Int) (h : 0 < b) : 0 ≤ a % b ∧ a % b < b := ⟨Int.emod_nonneg a (by omega), Int.emod_lt_of_pos a h⟩
theorem m_draws (c : Int) (n : Nat) (hn : n ≤ 1000) : ∃ l : List Int, D__law_draws [.p (.int c), .p (.int n)] [] = .ok (.p (.lst (l.map P.int))) [] ∧ l.length = n ∧ ∀ x ∈ l, 0 ≤ x ∧ x < 4096 := by
  unfold D__law_draws B__law_draws
  simp [rng_of (n := (n : Int)) (by omega) (by omega), upto]
  let Iv : Nat → Sl → List O → Prop := fun k S os => ∃ a4 a5 left, ∃ l : List Int, S = [some (.p (.int c)), some (.p (.int n)), some (.own 0), some (.p (.int left)), a4, a5] ∧ os = [.lst (l.map P.int)] ∧ l.length = k ∧ ∀ x ∈ l, 0 ≤ x ∧ x < 4096
  obtain ⟨S', os', h1, a4, a5, left, l, h2, h3, h4, h5⟩ := for_inv_n Iv (ps := List.map (fun k : Nat => P.int (k : Int)) (List.range n)) (n := 0) (S := [some (.p (.int c)), some (.p (.int n)), some (.own 0), some (.p (.int c)), none, none]) (os := [.lst []]) (g := nam 4) (body := (iff' (andB (tst (op2 geV (var 0) (op2 powV (cst (.int 10)) (cst (.int 18))))) (tst (op2 gtV (var 3) (cst (.int 0))))) (sq (drp (mtN "list" appV (var 2) (consA (op2 modV (opN (fn1 intV) (consA (var 3) nilA)) (cst (.int 4096))) nilA))) (asg (op2 divV (var 3) (cst (.int 4096))) (nam 3))) (sq (asg (op2 modV (opN (fn1 intV) (consA (op2 addV (op2 mulV (var 0) (cst (.int 48271))) (op2 mulV (op2 addV (var 4) (cst (.int 1))) (cst (.int 69621)))) nilA)) (cst (.int 2147483647))) (nam 5)) (sq (asg (op2 modV (opN (fn1 intV) (consA (op2 addV (op2 addV (op2 mulV (var 5) (var 5)) (op2 mulV (var 5) (cst (.int 16807)))) (op2 mulV (var 4) (cst (.int 7919)))) nilA)) (cst (.int 2147483629))) (nam 5)) (sq (asg (op2 modV (opN (fn1 intV) (consA (op2 addV (op2 addV (op2 mulV (var 5) (var 5)) (var 0)) (op2 mulV (cst (.int 13)) (var 4))) nilA)) (cst (.int 2147483587))) (nam 5)) (drp (mtN "list" appV (var 2) (consA (op2 modV (op2 divV (var 5) (cst (.int 7))) (cst (.int 4096))) nilA)))))))) (fun k p hp S os hI => by
    obtain ⟨a4, a5, left, l, e1, e2, e3, e4⟩ := hI
    rw [List.getElem?_map, Option.map_eq_some_iff] at hp
    obtain ⟨j, hj, rfl⟩ := hp
    have hk : k < n := by
      have := (List.getElem?_eq_some_iff.mp hj).1
      simpa using this
    have hj2 : j = k := by
      rw [List.getElem?_range hk] at hj
      exact (Option.some.inj hj).symm
    subst hj2 e1 e2
    have hap : ∀ x : Int, appV (.own 0) [.p (.int x)] [.lst (l.map P.int)] = .ok (.p .non) [.lst ((l ++ [x]).map P.int)] := fun x => by
      rw [app_own (os := [.lst (l.map P.int)]) (i := 0) rfl (by simp; omega)]
      simp
    refine ⟨_, rfl, ?_⟩
    -- the mixed branch
    have mixed : ∃ S2 os2, (sq (asg (op2 modV (opN (fn1 intV) (consA (op2 addV (op2 mulV (var 0) (cst (.int 48271))) (op2 mulV (op2 addV (var 4) (cst (.int 1))) (cst (.int 69621)))) nilA)) (cst (.int 2147483647))) (nam 5)) (sq (asg (op2 modV (opN (fn1 intV) (consA (op2 addV (op2 addV (op2 mulV (var 5) (var 5)) (op2 mulV (var 5) (cst (.int 16807)))) (op2 mulV (var 4) (cst (.int 7919)))) nilA)) (cst (.int 2147483629))) (nam 5)) (sq (asg (op2 modV (opN (fn1 intV) (consA (op2 addV (op2 addV (op2 mulV (var 5) (var 5)) (var 0)) (op2 mulV (cst (.int 13)) (var 4))) nilA)) (cst (.int 2147483587))) (nam 5)) (drp (mtN "list" appV (var 2) (consA (op2 modV (op2 divV (var 5) (cst (.int 7))) (cst (.int 4096))) nilA)))))) [some (.p (.int c)), some (.p (.int n)), some (.own 0), some (.p (.int left)), some (.p (.int j)), a5] [.lst (l.map P.int)] = .ok (.nx S2) os2 ∧ Iv (0 + j + 1) S2 os2 := by
      obtain ⟨m1, hm1⟩ : ∃ m : Int, m = (c * 48271 + ((j : Int) + 1) * 69621) % 2147483647 := ⟨_, rfl⟩
      obtain ⟨m2, hm2⟩ : ∃ m : Int, m = (m1 * m1 + m1 * 16807 + (j : Int) * 7919) % 2147483629 := ⟨_, rfl⟩
      have b1 := mod_r (c * 48271 + ((j : Int) + 1) * 69621) 2147483647 (by decide)
      have b2 := mod_r (m1 * m1 + m1 * 16807 + (j : Int) * 7919) 2147483629 (by decide)
      rw [← hm1] at b1
      rw [← hm2] at b2
      refine ⟨[some (.p (.int c)), some (.p (.int n)), some (.own 0), some (.p (.int left)), some (.p (.int j)), some (.p (.int ((m2 * m2 + c + 13 * (j : Int)) % 2147483587)))], [.lst ((l ++ [((m2 * m2 + c + 13 * (j : Int)) % 2147483587) / 7 % 4096]).map P.int)], ?_, _, _, _, _, rfl, rfl, by simp; omega, fun x hx => ?_⟩
      · simp [o_modI, mulOk_r, ← hm1]
        simp [o_modI, mulOk_r, mulOk_l, ← hm2, show -18446744073709551616 < m1 by omega, show m1 < 18446744073709551616 by omega]
        simp [o_modI, o_divI, mulOk_r, mulOk_l, hap, show -18446744073709551616 < m2 by omega, show m2 < 18446744073709551616 by omega]
      · rcases List.mem_append.mp hx with hx | hx
        · exact e4 x hx
        · rw [List.mem_singleton] at hx
          rw [hx]
          exact mod_r _ 4096 (by decide)
    by_cases hA : 1000000000000000000 ≤ c
    · by_cases hB : 0 < left
      · refine ⟨[some (.p (.int c)), some (.p (.int n)), some (.own 0), some (.p (.int (left / 4096))), some (.p (.int j)), a5], [.lst ((l ++ [left % 4096]).map P.int)], .inl ?_, _, _, _, _, rfl, rfl, by simp; omega, fun x hx => ?_⟩
        · simp [powV, hA, hB, o_modI, o_divI, hap]
        · rcases List.mem_append.mp hx with hx | hx
          · exact e4 x hx
          · rw [List.mem_singleton] at hx
            rw [hx]
            exact mod_r _ 4096 (by decide)
      · obtain ⟨S2, os2, g1, g2⟩ := mixed
        refine ⟨S2, os2, .inl ?_, g2⟩
        rw [← g1]
        simp [powV, hA, hB]
    · obtain ⟨S2, os2, g1, g2⟩ := mixed
      refine ⟨S2, os2, .inl ?_, g2⟩
      rw [← g1]
      simp [powV, hA]) ⟨none, none, c, [], rfl, rfl, rfl, fun x hx => by cases hx⟩
  subst h2 h3
  refine ⟨l, ?_, by simpa using h4, h5⟩
  rw [h1]
  simp [gst, still]
end DL
namespace DL
open PySem PySem.Spec
open PyProof.Rows L2
def Dr (l : List Int) : Prop := ∀ x ∈ l, 0 ≤ x ∧ x < 4096
theorem m_pool (ns : List Int) : ∃ l : List Int, D__law_pool [.p (.scr ns)] [] = .ok (.own 0) [.lst [.lst (l.map P.int), .int 0]] ∧ l.length = 160 ∧ Dr l := by
  unfold D__law_pool B__law_pool
  have e4 : upto 0 4 = List.map (fun k : Nat => P.int (k : Int)) (List.range 4) := by simp [upto]
  simp [rng_of (n := 4) (by decide) (by decide), e4]
  let Iv : Nat → Sl → List O → Prop := fun k S os => ∃ a2, ∃ l : List Int, S = [some (.p (.scr ns)), some (.p (.lst (l.map P.int))), a2] ∧ os = [] ∧ l.length = 40 * k ∧ Dr l
  obtain ⟨S', os', h1, a2, l, h2, h3, h4, h5⟩ := for_inv_n Iv (ps := List.map (fun k : Nat => P.int (k : Int)) (List.range 4)) (n := 0) (S := [some (.p (.scr ns)), some (.p (.lst [])), none]) (os := []) (g := nam 2) (body := (asg (op2 addV (var 1) (opN (callN 2 D__law_draws) (consA (opN (callN 2 D__law_cell) (consA (var 0) (consA (var 2) nilA))) (consA (cst (.int 40)) nilA)))) (nam 1))) (fun k p hp S os hI => by
    obtain ⟨a2, l, e1, e2, e3, e4⟩ := hI
    rw [List.getElem?_map, Option.map_eq_some_iff] at hp
    obtain ⟨j, hj, rfl⟩ := hp
    have hk : k < 4 := by
      have := (List.getElem?_eq_some_iff.mp hj).1
      simpa using this
    subst e1 e2
    obtain ⟨m, d1, d2, d3⟩ := m_draws (ns.getD j 0) 40 (by decide)
    refine ⟨_, rfl, [some (.p (.scr ns)), some (.p (.lst ((l ++ m).map P.int))), some (.p (.int j))], [], .inl ?_, _, _, rfl, rfl, by rw [List.length_append]; omega, fun x hx => ?_⟩
    · have hc := m_cell ns j
      have d1' : D__law_draws [.p (.int (ns.getD j 0)), .p (.int 40)] [] = .ok (.p (.lst (m.map P.int))) [] := d1
      simp only [List.getD_eq_getElem?_getD] at hc d1'
      simp [hc, d1', show l.length + m.length ≤ 16777216 by omega]
    · rcases List.mem_append.mp hx with hx | hx
      · exact e4 x hx
      · exact d3 x hx) ⟨none, [], rfl, rfl, rfl, fun x hx => by cases hx⟩
  subst h2 h3
  refine ⟨l, ?_, by simpa using h4, h5⟩
  rw [h1]
  simp [trimR, O.flat]
/-- a pool -/
def plO (l : List Int) (at' : Nat) : O := .lst [.lst (l.map P.int), .int at']
theorem dr_at {l : List Int} (h : Dr l) {i : Int} (h0 : 0 ≤ i) (h1 : i < l.length) : ∃ x : Int, atI (l.map P.int) i = some (.int x) ∧ 0 ≤ x ∧ x < 4096 := by
  obtain ⟨k, rfl⟩ : ∃ k : Nat, i = k := ⟨i.toNat, by omega⟩
  have hk : k < l.length := by omega
  refine ⟨l[k], ?_, h _ (List.getElem_mem hk)⟩
  rw [atI_nat, List.getElem?_map, List.getElem?_eq_getElem hk]
  rfl
theorem m_pick {l : List Int} (hl : l.length = 160) (hd : Dr l) (a : Nat) (ha : a < 100000) (m : Int) (hm : 0 < m) : ∃ r : Int, D__law_pick [.own 0, .p (.int m)] [plO l a] = .ok (.p (.int r)) [plO l (a + 1)] ∧ 0 ≤ r ∧ r < m := by
  obtain ⟨x, h1, h2, h3⟩ := dr_at hd (i := (a : Int) % 160) (by omega) (by omega)
  have hset : ∀ y : Int, setV (.own 0) (.p (.int 1)) (.p (.int y)) [plO l a] = some [.lst [.lst (l.map P.int), .int y]] := fun y => set_ownL (os := [plO l a]) (i := 0) (k := 1) rfl (by simp)
  refine ⟨_, ?_, mod_r (x + (a : Int) / 160 * 1009 + (a : Int) / 160 * a) m hm⟩
  unfold D__law_pick B__law_pick
  have e1 : ∀ k : Int, ixV (.own 0) (.p (.int k)) [plO l a] = ixK (atI [.lst (l.map P.int), .int a] k) [plO l a] := fun k => ix_own (os := [plO l a]) (i := 0) rfl
  have e2 : ∀ k y : Int, ixV (.own 0) (.p (.int k)) [O.lst [.lst (l.map P.int), .int y]] = ixK (atI [.lst (l.map P.int), .int y] k) [O.lst [.lst (l.map P.int), .int y]] := fun k y => ix_own (os := [O.lst [.lst (l.map P.int), .int y]]) (i := 0) rfl
  simp [e1, e2, hset, hl, o_divI, o_modI, h1, mulOk_r, mulOk_l, show -18446744073709551616 < (a : Int) by omega, show (a : Int) < 18446744073709551616 by omega, hm]
  simp [trimR, O.flat, plO]
theorem m_var (d : Int) : ∃ n ∈ nms, D__law_var [.p (.int d)] [] = .ok (.p (.str n)) [] := by
  unfold D__law_var B__law_var
  simp [o_modI]
  have h := mod_r d 4 (by decide)
  have h4 : d % 4 = 0 ∨ d % 4 = 1 ∨ d % 4 = 2 ∨ d % 4 = 3 := by omega
  rcases h4 with h4 | h4 | h4 | h4
  · exact ⟨"x", by simp [nms], by simp [h4]⟩
  · exact ⟨"y", by simp [nms], by simp [h4]⟩
  · exact ⟨"z1", by simp [nms], by simp [h4]⟩
  · exact ⟨"b", by simp [nms], by simp [h4]⟩
/-- what the dict of terms holds -/
structure TK (s : Int) (kvs : List (Key × P)) : Prop where
  kv : KV kvs
  vs : ∀ e ∈ kvs, ∃ i : Int, e.2 = .int i ∧ -s ≤ i ∧ i ≤ s ∧ i ≠ 0
theorem TK.put {s : Int} {kvs : List (Key × P)} (h : TK s kvs) {n : Str} (hn : n ∈ nms) {i : Int} (h1 : -s ≤ i) (h2 : i ≤ s) (h3 : i ≠ 0) : TK s (dput kvs (.inr n) (.int i)) := ⟨h.kv.put hn _, fun e he => by
  rcases dput_mem he with rfl | he
  · exact ⟨i, rfl, h1, h2, h3⟩
  · exact h.vs e he⟩
def valT (kvs : List (Key × P)) (n : Str) : Int := match dlook kvs (.inr n) with
  | some (.int i) => i
  | _ => 0
theorem TK.out {s : Int} {kvs : List (Key × P)} (h : TK s kvs) (h0 : 0 < kvs.length) : ∃ ss : List Str, keysS (kvs.map (·.1)) = some ss ∧ ss.length ≤ 4 ∧ (∀ n ∈ sortS ss, dlook kvs (.inr n) = some (.int (valT kvs n))) ∧ WT s ((sortS ss).map fun n => (n, valT kvs n)) := by
  obtain ⟨ss, e1, e2, e3, e4⟩ := h.kv.strs
  have hmem : ∀ n, n ∈ sortS ss ↔ n ∈ ss := fun n => (List.mergeSort_perm ss leS).mem_iff
  have hlen : (sortS ss).length = ss.length := by unfold sortS; rw [List.length_mergeSort]
  have hk : kvs.length = ss.length := by
    have := congrArg List.length e1
    simpa using this
  have hv : ∀ n ∈ sortS ss, ∃ i : Int, dlook kvs (.inr n) = some (.int i) ∧ -s ≤ i ∧ i ≤ s ∧ i ≠ 0 := fun n hn => by
    have : (Sum.inr n : Key) ∈ kvs.map (·.1) := by
      rw [e1]
      exact List.mem_map.mpr ⟨n, (hmem n).mp hn, rfl⟩
    obtain ⟨v, h1, h2⟩ := dlook_some this
    obtain ⟨i, h3, h4⟩ := h.vs _ h2
    have h3' : v = .int i := h3
    exact ⟨i, by rw [h1, h3'], h4⟩
  have hval : ∀ n ∈ sortS ss, dlook kvs (.inr n) = some (.int (valT kvs n)) := fun n hn => by
    obtain ⟨i, h1, _⟩ := hv n hn
    unfold valT
    rw [h1]
  refine ⟨ss, by rw [e1, keysS_map], e2, hval, ⟨by rw [List.length_map]; omega, by rw [List.length_map]; omega, fun t ht => ?_, fun t ht => ?_, ?_⟩⟩
  · obtain ⟨n, hn, rfl⟩ := List.mem_map.mp ht
    exact e4 n ((hmem n).mp hn)
  · obtain ⟨n, hn, rfl⟩ := List.mem_map.mp ht
    obtain ⟨i, h1, h2⟩ := hv n hn
    rw [hval n hn] at h1
    cases h1
    exact h2
  · rw [List.map_map]
    have e : ((fun t : Str × Int => t.1) ∘ fun n => (n, valT kvs n)) = id := rfl
    rw [e, List.map_id]
    have p1 : (sortS ss).Pairwise fun a b => leS a b = true := List.pairwise_mergeSort leS_trans leS_total ss
    have p2 : (sortS ss).Nodup := (List.mergeSort_perm ss leS).nodup_iff.mpr e3
    exact (p1.and p2).imp_of_mem fun {a b} ha hb h => le_ltS (e4 a ((hmem a).mp ha)) (e4 b ((hmem b).mp hb)) h.1 h.2
theorem m_terms {l : List Int} (hl : 5 ≤ l.length) (hd : Dr l) (s : Int) (hs : 0 < s) (hs2 : s ≤ 20) : ∃ ts : Ts, D__law_terms [.p (.lst (l.map P.int)), .p (.int 0), .p (.int 2), .p (.int (-s)), .p (.int s)] [] = .ok (.p (eTs ts)) [] ∧ WT s ts := by
  unfold D__law_terms B__law_terms
  obtain ⟨x0, h0, b0, b0'⟩ := dr_at hd (i := 0) (by omega) (by omega)
  have hr := mod_r x0 2 (by decide)
  let Iv : Sl → List O → Prop := fun S os => ∃ a6 a7 a8 kvs, S = [some (.p (.lst (l.map P.int))), some (.p (.int 0)), some (.p (.int 2)), some (.p (.int (-s))), some (.p (.int s)), some (.own 0), a6, a7, a8] ∧ os = [.dK kvs] ∧ TK s kvs
  obtain ⟨S', os', h1, a6, a7, a8, kvs, h2, h3, h4⟩ := for_inv Iv (ps := upto 0 (1 + x0 % 2).toNat) (S := [some (.p (.lst (l.map P.int))), some (.p (.int 0)), some (.p (.int 2)), some (.p (.int (-s))), some (.p (.int s)), some (.own 0), none, none, none]) (os := [.dK []]) (g := nam 6) (body := (sq (asg (op2 addV (var 3) (op2 modV (op2 ixV (var 0) (op2 addV (op2 addV (var 1) (op2 mulV (cst (.int 2)) (var 6))) (cst (.int 1)))) (op2 addV (op2 subV (var 4) (var 3)) (cst (.int 1))))) (nam 7)) (iff' (tst (op2 neX (var 7) (cst (.int 0)))) (sto (var 5) (opN (callN 1 D__law_var) (consA (op2 ixV (var 0) (op2 addV (op2 addV (var 1) (op2 mulV (cst (.int 2)) (var 6))) (cst (.int 2)))) nilA)) (var 7)) skp))) (fun p hp S os hI => by
    obtain ⟨a6, a7, a8, kvs, e1, e2, e3⟩ := hI
    unfold upto at hp
    obtain ⟨k, hk, rfl⟩ := List.mem_map.mp hp
    have hk2 := List.mem_range.mp hk
    subst e1 e2
    have hle := e3.kv.len
    obtain ⟨y, g1, g2, g3⟩ := dr_at hd (i := 2 * (k : Int) + 1) (by omega) (by omega)
    obtain ⟨z, g4, g5, g6⟩ := dr_at hd (i := 2 * (k : Int) + 2) (by omega) (by omega)
    obtain ⟨n, hn, hv⟩ := m_var z
    have hf := mod_r y (s + s + 1) (by omega)
    refine ⟨_, rfl, ?_⟩
    by_cases hz : -s + y % (s + s + 1) = 0
    · refine ⟨[some (.p (.lst (l.map P.int))), some (.p (.int 0)), some (.p (.int 2)), some (.p (.int (-s))), some (.p (.int s)), some (.own 0), some (.p (.int k)), some (.p (.int (-s + y % (s + s + 1)))), a8], [.dK kvs], .inl ?_, _, _, _, _, rfl, rfl, e3⟩
      simp [mulOk_l, g1, o_modI, show 0 < s + s + 1 by omega, hz]
    · refine ⟨[some (.p (.lst (l.map P.int))), some (.p (.int 0)), some (.p (.int 2)), some (.p (.int (-s))), some (.p (.int s)), some (.own 0), some (.p (.int k)), some (.p (.int (-s + y % (s + s + 1)))), a8], [.dK (dput kvs (.inr n) (.int (-s + y % (s + s + 1))))], .inl ?_, _, _, _, _, rfl, rfl, e3.put hn (i := -s + y % (s + s + 1)) (by omega) (by omega) hz⟩
      have hset := set_ownK (os := [.dK kvs]) (i := 0) (z := n) (x := .int (-s + y % (s + s + 1))) rfl (by omega)
      simp [mulOk_l, g1, o_modI, show 0 < s + s + 1 by omega, hz, g4, hv, hset]) ⟨none, none, none, [], rfl, rfl, ⟨⟨by simp, fun k hk => by simp at hk⟩, fun e he => by cases he⟩⟩
  have fin : ∀ (a6 a7 a8 : Option D) (kvs : List (Key × P)), TK s kvs → 0 < kvs.length → ∃ ts : Ts, ret (opN (fn1 tupleV) (consA (frzF (lc (op1 itsA (frzF (opN (fn1 sortedV) (consA (var 5) nilA)))) [8] (nam 8) yesB (opN mkT (consA (var 8) (consA (op2 ixV (var 5) (var 8)) nilA))))) nilA)) [some (.p (.lst (l.map P.int))), some (.p (.int 0)), some (.p (.int 2)), some (.p (.int (-s))), some (.p (.int s)), some (.own 0), a6, a7, a8] [.dK kvs] = .ok (.rt (.p (eTs ts))) [.dK kvs] ∧ WT s ts := fun a6 a7 a8 kvs hk h0 => by
    obtain ⟨ss, f1, f2, f3, f4⟩ := hk.out h0
    have hlen : (sortS ss).length = ss.length := by unfold sortS; rw [List.length_mergeSort]
    refine ⟨_, ?_, f4⟩
    have hsort : sortedV (.own 0) [.dK kvs] = .ok ((sortS ss).map P.str) [.dK kvs] := by
      simp [sortedV, dctOf, f1, show ss.length < 64 by omega]
    simp [hsort]
    rw [lcS_M P.str (fun n => eT (n, valT kvs n)) (by simp; omega) fun n hn => ⟨_, rfl, by
      have := ix_ownK (os := [.dK kvs]) (i := 0) rfl (f3 n hn)
      simp [wipeS, this, eT]⟩]
    simp [eTs, Function.comp_def]
  subst h2 h3
  by_cases hz : kvs.length = 0
  · have hnil : kvs = [] := List.length_eq_zero_iff.mp hz
    subst hnil
    have hset := set_ownK (os := [.dK []]) (i := 0) (z := "x") (x := .int s) rfl (by decide)
    obtain ⟨ts, g1, g2⟩ := fin a6 a7 a8 _ (h4.put (n := "x") (by simp [nms]) (i := s) (by omega) (by omega) (by omega)) (by simp [dput])
    refine ⟨ts, ?_, g2⟩
    simp [h0, o_modI, rng_of (n := 1 + x0 % 2) (by omega) (by omega), h1, hset, -e_ret, g1]
  · obtain ⟨ts, g1, g2⟩ := fin a6 a7 a8 kvs h4 (by omega)
    refine ⟨ts, ?_, g2⟩
    have hne : kvs ≠ [] := fun e => hz (by rw [e]; rfl)
    simp [h0, o_modI, rng_of (n := 1 + x0 % 2) (by omega) (by omega), h1, hne, -e_ret, g1]
end DL
namespace DL
open PySem PySem.Spec
open PyProof.Rows L2
theorem WT.up {s t : Int} {ts : Ts} (w : WT s ts) (h : s ≤ t) : WT t ts := ⟨w.ne, w.le, w.nm, fun u hu => by have := w.fa u hu; omega, w.so⟩
theorem rot_dr {l : List Int} (hd : Dr l) (a b : Option Int) (c d : Option Int) : Dr (cutP l a b ++ cutP l c d) := fun x hx => by
  have h : ∀ (a b : Option Int), x ∈ cutP l a b → x ∈ l := fun a b h => List.mem_of_mem_drop (List.mem_of_mem_take h)
  rcases List.mem_append.mp hx with h1 | h1
  · exact hd x (h _ _ h1)
  · exact hd x (h _ _ h1)
theorem rot_len {l : List Int} {i : Int} (h0 : 0 ≤ i) (h1 : i < l.length) : (cutP l (some i) none ++ cutP l none (some i)).length = l.length := by
  obtain ⟨k, rfl⟩ : ∃ k : Nat, i = k := ⟨i.toNat, by omega⟩
  unfold cutP
  rw [HT.sIx_nat, HT.sIx_none, HT.sIx_none, HT.sIx_nat]
  simp
  omega
theorem cut_map {α β : Type} (f : α → β) (l : List α) (a b : Option Int) : cutP (l.map f) a b = (cutP l a b).map f := by
  unfold cutP
  rw [List.length_map, List.map_take, List.map_drop]
theorem sl_lst {os : List O} (xs : List P) (lo hi : Option Int) : slV (.p (.lst xs)) lo hi os = .ok (.p (.lst (cutP xs lo hi))) os := rfl
theorem m_formula {l : List Int} (hl : l.length = 60) (hd : Dr l) (s : Int) (hs : 0 < s) (hs2 : s ≤ 20) : ∀ (k d : Nat) (a : Int), d < k → ∃ F : Fm, D__law_formula k [.p (.lst (l.map P.int)), .p (.int a), .p (.int d), .p (.int s)] [] = .ok (.p F.e) [] ∧ F.wt ∧ F.vp = true ∧ F.depth ≤ d + 1
  | 0, d, a, h => by omega
  | k + 1, d, a, h => by
    have ih := m_formula hl hd s hs hs2 k
    have m0 := mod_r a 60 (by decide)
    have m1 := mod_r (a + 1) 60 (by decide)
    obtain ⟨x0, g0, b0, b0'⟩ := dr_at hd (i := a % 60) m0.1 (by omega)
    obtain ⟨w, hw⟩ : ∃ w : Int, w = x0 % 12 := ⟨_, rfl⟩
    have hw2 := mod_r x0 12 (by decide)
    rw [← hw] at hw2
    obtain ⟨mo, hmo⟩ : ∃ mo : List Int, mo = cutP l (some ((a + 1) % 60)) none ++ cutP l none (some ((a + 1) % 60)) := ⟨_, rfl⟩
    have hml : mo.length = 60 := by rw [hmo, rot_len m1.1 (by omega), hl]
    have hmd : Dr mo := by rw [hmo]; exact rot_dr hd _ _ _ _
    have hll : (cutP l (some ((a + 1) % 60)) none).length + (cutP l none (some ((a + 1) % 60))).length = 60 := by rw [← List.length_append, rot_len m1.1 (by omega), hl]
    have hmm : List.map P.int (cutP l (some ((a + 1) % 60)) none) ++ List.map P.int (cutP l none (some ((a + 1) % 60))) = List.map P.int mo := by rw [← List.map_append, hmo]
    obtain ⟨y0, q0, r0, r0'⟩ := dr_at hmd (i := 0) (by omega) (by omega)
    obtain ⟨y9, q9, r9, r9'⟩ := dr_at hmd (i := 9) (by omega) (by omega)
    obtain ⟨y10, q10, r10, r10'⟩ := dr_at hmd (i := 10) (by omega) (by omega)
    obtain ⟨ts, t1, t2⟩ := m_terms (l := mo) (by omega) hmd s hs hs2
    unfold D__law_formula B__law_formula
    simp [hl, o_modI, g0, ← hw, sl_lst, cut_map, hll, hmm]
    by_cases c1 : 1 < d
    · have hd1 : (d : Int) - 1 = ((d - 1 : Nat) : Int) := by omega
      have hd2 : (1 : Int) < d := by omega
      obtain ⟨F1, f1, f2, f3, f4⟩ := ih (d - 1) (2 * a + 3) (by omega)
      obtain ⟨F2, k1, k2, k3, k4⟩ := ih (d - 1) (2 * a + 11) (by omega)
      obtain ⟨F3, j1, j2, j3, j4⟩ := ih (d - 1) (a + 7) (by omega)
      by_cases w3 : w < 3
      · have hx : w = 0 ∨ w = 1 ∨ w = 2 := by omega
        rcases hx with hx | hx | hx
        · exact ⟨.con F1 F2, by simp [c1, hd2, hx, hd1, mulOk_l, f1, k1, Fm.e], ⟨f2, k2⟩, by simp [Fm.vp, f3, k3], by simp [Fm.depth]; omega⟩
        · exact ⟨.dis F1 F2, by simp [c1, hd2, hx, hd1, mulOk_l, f1, k1, Fm.e], ⟨f2, k2⟩, by simp [Fm.vp, f3, k3], by simp [Fm.depth]; omega⟩
        · exact ⟨.con F1 F2, by simp [c1, hd2, hx, hd1, mulOk_l, f1, k1, Fm.e], ⟨f2, k2⟩, by simp [Fm.vp, f3, k3], by simp [Fm.depth]; omega⟩
      · by_cases w4 : w < 5
        · exact ⟨.neg F3, by simp [c1, hd2, w3, w4, hd1, j1, Fm.e], j2, by simp [Fm.vp, j3], by simp [Fm.depth]; omega⟩
        · have hd0 := hd2
          by_cases w5 : w = 5
          · have h2 := mod_r y0 2 (by decide)
            have h3 : y0 % 2 = 0 ∨ y0 % 2 = 1 := by omega
            rcases h3 with h3 | h3
            · exact ⟨.tt, by simp [c1, hd2, w3, w4, w5, q0, o_modI, h3, Fm.e], trivial, rfl, by simp [Fm.depth]⟩
            · exact ⟨.ff, by simp [c1, hd2, w3, w4, w5, q0, o_modI, h3, Fm.e], trivial, rfl, by simp [Fm.depth]⟩
          · by_cases w9 : w < 9
            · have h2 := mod_r y9 (2 * s + 1) (by omega)
              exact ⟨.least ts (y9 % (2 * s + 1) - s), by simp [c1, hd2, w3, w4, w5, w9, t1, q9, o_modI, mulOk_l, show 0 < 2 * s + 1 by omega, Fm.e], t2.up hs2, by simp [Fm.vp]; omega, by simp [Fm.depth]⟩
            · have h3 : ∃ M : Int, (if (if s < 19 then s else 19) > 1 then (if s < 19 then s else 19) else 1) = M ∧ 1 ≤ M ∧ M ≤ 19 := ⟨_, rfl, by split <;> split <;> omega, by split <;> split <;> omega⟩
              obtain ⟨M, hM, hM1, hM2⟩ := h3
              have hmx : max2V (.p (.int 1)) (.p (.int (if s < 19 then s else 19))) [] = .ok (.p (.int M)) [] := by rw [o_max2, hM]
              have h2 := mod_r y9 M (by omega)
              have h4 := mod_r y10 (2 + y9 % M) (by omega)
              exact ⟨.rest ts (y10 % (2 + y9 % M)) (2 + y9 % M), by simp [c1, hd2, w3, w4, w5, w9, t1, q9, q10, o_modI, -o_max2, hmx, show 0 < M by omega, show 0 < 2 + y9 % M by omega, Fm.e], t2.up hs2, by simp [Fm.vp]; omega, by simp [Fm.depth]⟩
    · have hd2 : ¬ (1 : Int) < d := by omega
      by_cases w5 : w = 5
      · have h2 := mod_r y0 2 (by decide)
        have h3 : y0 % 2 = 0 ∨ y0 % 2 = 1 := by omega
        rcases h3 with h3 | h3
        · exact ⟨.tt, by simp [c1, hd2, w5, q0, o_modI, h3, Fm.e], trivial, rfl, by simp [Fm.depth]⟩
        · exact ⟨.ff, by simp [c1, hd2, w5, q0, o_modI, h3, Fm.e], trivial, rfl, by simp [Fm.depth]⟩
      · by_cases w9 : w < 9
        · have h2 := mod_r y9 (2 * s + 1) (by omega)
          exact ⟨.least ts (y9 % (2 * s + 1) - s), by simp [c1, hd2, w5, w9, t1, q9, o_modI, mulOk_l, show 0 < 2 * s + 1 by omega, Fm.e], t2.up hs2, by simp [Fm.vp]; omega, by simp [Fm.depth]⟩
        · have h3 : ∃ M : Int, (if (if s < 19 then s else 19) > 1 then (if s < 19 then s else 19) else 1) = M ∧ 1 ≤ M ∧ M ≤ 19 := ⟨_, rfl, by split <;> split <;> omega, by split <;> split <;> omega⟩
          obtain ⟨M, hM, hM1, hM2⟩ := h3
          have hmx : max2V (.p (.int 1)) (.p (.int (if s < 19 then s else 19))) [] = .ok (.p (.int M)) [] := by rw [o_max2, hM]
          have h2 := mod_r y9 M (by omega)
          have h4 := mod_r y10 (2 + y9 % M) (by omega)
          exact ⟨.rest ts (y10 % (2 + y9 % M)) (2 + y9 % M), by simp [c1, hd2, w5, w9, t1, q9, q10, o_modI, -o_max2, hmx, show 0 < M by omega, show 0 < 2 + y9 % M by omega, Fm.e], t2.up hs2, by simp [Fm.vp]; omega, by simp [Fm.depth]⟩
end DL
namespace DL
open PySem PySem.Spec
open PyProof.Rows L2
section
variable {l : List Int} (hl : l.length = 160) (hd : Dr l)
include hl hd
theorem c_pick (a : Nat) (ha : a < 100000) (m : Int) (hm : 0 < m) (r : List O) : ∃ z : Int, callN 2 D__law_pick [.own 0, .p (.int m)] (plO l a :: r) = .ok (.p (.int z)) (plO l (a + 1) :: r) ∧ 0 ≤ z ∧ z < m := by
  obtain ⟨z, h1, h2⟩ := m_pick hl hd a ha m hm
  exact ⟨z, call2Op (os := plO l a :: r) (i := 0) rfl rfl h1 rfl, h2⟩
theorem c_drawn (ns : List Int) (a : Nat) (ha : a < 90000) (k : Nat) (d : Nat) (hd1 : d ≤ 6) (s : Int) (hs : 0 < s) (hs2 : s ≤ 20) (r : List O) : ∃ F : Fm, callN 5 D__law_drawn_formula [.own 0, .p (.scr ns), .p (.int k), .p (.int d), .p (.int s)] (plO l a :: r) = .ok (.p F.e) (plO l (a + 2) :: r) ∧ F.wt ∧ F.vp = true ∧ F.depth ≤ 7 := by
  obtain ⟨z1, p1, _, _⟩ := c_pick hl hd a (by omega) 30 (by decide) []
  obtain ⟨z2, p2, _, _⟩ := c_pick hl hd (a + 1) (by omega) 20 (by decide) []
  obtain ⟨m, d1, d2, d3⟩ := m_draws (ns.getD k 0 + z1) 60 (by decide)
  obtain ⟨F, f1, f2, f3, f4⟩ := m_formula (l := m) d2 d3 s hs hs2 10 d z2 (by omega)
  refine ⟨F, call5O (os := plO l a :: r) (i := 0) (o' := plO l (a + 2)) rfl rfl ?_ rfl, f2, f3, by omega⟩
  have hc := m_cell ns k
  have d1' : D__law_draws [.p (.int (ns.getD k 0 + z1)), .p (.int 60)] [] = .ok (.p (.lst (m.map P.int))) [] := d1
  simp only [List.getD_eq_getElem?_getD] at hc d1'
  unfold D__law_drawn_formula B__law_drawn_formula
  simp [hc, p1, p2, d1', f1]
  simp [trimR, plO, O.flat]
  omega
end
theorem c_told (F : Fm) (w : F.wt) (h : F.depth ≤ 19) (o : O) (r : List O) : callN 3 D__law_told_rewritten [.p F.e, .p (.int 0), .own (r.length + 1)] (o :: (r ++ [.dK []])) = .ok (.p F.opp.told) (o :: (r ++ [.dK []])) := by
  have := call3ppO (f := D__law_told_rewritten) (os := (o :: r) ++ [.dK []]) (i := (o :: r).length) (by simp) rfl (m_told F w h) rfl
  simpa using this
structure Good (F : Fm) : Prop where
  wt : F.wt
  dp : F.depth ≤ 9
  le : ∀ ts b, F = .least ts b → -20 ≤ b ∧ b ≤ 20
theorem wt1 (z : Int) (h0 : 0 ≤ z) (h1 : z < 20) : WT 20 [("x", 1 + z)] where
  ne := by simp
  le := by simp
  nm := fun t ht => by
    have : t = (("x" : Str), 1 + z) := by simpa using ht
    subst this
    simp [nms]
  fa := fun t ht => by
    have : t = (("x" : Str), 1 + z) := by simpa using ht
    subst this
    show -20 ≤ 1 + z ∧ 1 + z ≤ 20 ∧ 1 + z ≠ 0
    omega
  so := by simp
section
variable {l : List Int} (hl : l.length = 160) (hd : Dr l) (ns : List Int)
abbrev Sx (ns : List Int) (k : Nat) (x3 x4 x5 : Option D) : Sl := [some (.p (.scr ns)), some (.own 0), some (.p (.int k)), x3, x4, x5]
include hl hd
theorem st1 (k a : Nat) (ha : a < 80000) (x3 x4 x5 : Option D) (r : List O) : ∃ F : Fm, (asg (opN (callN 5 D__law_drawn_formula) (consA (var 1) (consA (var 0) (consA (op2 modV (var 2) (cst (.int 4))) (consA (op2 addV (cst (.int 1)) (opN (callN 2 D__law_pick) (consA (var 1) (consA (cst (.int 6)) nilA)))) (consA (op2 addV (cst (.int 1)) (opN (callN 2 D__law_pick) (consA (var 1) (consA (cst (.int 20)) nilA)))) nilA)))))) (nam 3)) (Sx ns k x3 x4 x5) (plO l a :: r) = .ok (.nx (Sx ns k (some (.p F.e)) x4 x5)) (plO l (a + 4) :: r) ∧ Good F := by
  obtain ⟨z1, p1, u1, v1⟩ := c_pick hl hd a (by omega) 6 (by decide) r
  obtain ⟨z2, p2, u2, v2⟩ := c_pick hl hd (a + 1) (by omega) 20 (by decide) r
  obtain ⟨d, hdd⟩ : ∃ d : Nat, 1 + z1 = d := ⟨(1 + z1).toNat, by omega⟩
  obtain ⟨F, f1, f2, f3, f4⟩ := c_drawn hl hd ns (a + 1 + 1) (by omega) (k % 4) d (by omega) (1 + z2) (by omega) (by omega) r
  have f1' : callN 5 D__law_drawn_formula [.own 0, .p (.scr ns), .p (.int ((k : Int) % 4)), .p (.int d), .p (.int (1 + z2))] (plO l (a + 1 + 1) :: r) = .ok (.p F.e) (plO l (a + 4) :: r) := by
    have e : ((k % 4 : Nat) : Int) = (k : Int) % 4 := by omega
    rw [← e]
    exact f1
  refine ⟨F, ?_, f2, by omega, fun ts b e => ?_⟩
  · simp [o_modI, p1, p2, hdd, f1']
  · subst e
    simp [Fm.vp] at f3
    exact f3
theorem st2 (k a : Nat) (ha : a < 80000) (F : Fm) (g : Good F) (x4 x5 : Option D) (r : List O) : ∃ (F2 : Fm) (a2 : Nat), (iff' (tst (op2 gtV (var 2) (cst (.int 3)))) (asg (opN mkT (consA (cst (.str "least")) (consA (opN mkT (consA (opN mkT (consA (cst (.str "x")) (consA (op2 addV (cst (.int 1)) (opN (callN 2 D__law_pick) (consA (var 1) (consA (cst (.int 20)) nilA)))) nilA))) nilA)) (consA (op2 subV (opN (callN 2 D__law_pick) (consA (var 1) (consA (cst (.int 3)) nilA))) (cst (.int 20))) nilA)))) (nam 3)) skp) (Sx ns k (some (.p F.e)) x4 x5) (plO l a :: r) = .ok (.nx (Sx ns k (some (.p F2.e)) x4 x5)) (plO l a2 :: r) ∧ Good F2 ∧ a2 ≤ a + 2 := by
  by_cases hk : 3 < k
  · obtain ⟨z1, p1, u1, v1⟩ := c_pick hl hd a (by omega) 20 (by decide) r
    obtain ⟨z2, p2, u2, v2⟩ := c_pick hl hd (a + 1) (by omega) 3 (by decide) r
    refine ⟨.least [("x", 1 + z1)] (z2 - 20), a + 1 + 1, ?_, ⟨wt1 z1 u1 v1, by simp [Fm.depth], fun ts b e => ?_⟩, by omega⟩
    · simp [show (3 : Int) < k by omega, p1, p2, Fm.e, eTs, eT]
    · cases e
      omega
  · exact ⟨F, a, by simp [show ¬ (3 : Int) < k by omega], g, by omega⟩
theorem st3 (k a : Nat) (ha : a < 80000) (F : Fm) (g : Good F) (x4 x5 : Option D) (r : List O) : ∃ (F2 : Fm) (a2 : Nat) (x5' : Option D), (iff' (tst (op2 eqX (var 2) (cst (.int 3)))) (sq (asg (opN mkT (consA (cst (.str "rest")) (consA (opN mkT (consA (opN mkT (consA (cst (.str "x")) (consA (cst (.int 1)) nilA))) nilA)) (consA (cst (.int 0)) (consA (op2 addV (cst (.int 2)) (opN (callN 2 D__law_pick) (consA (var 1) (consA (cst (.int 3)) nilA)))) nilA))))) (nam 3)) (for' (opN itsR1 (consA (opN (callN 2 D__law_pick) (consA (var 1) (consA (cst (.int 8)) nilA))) nilA)) (nam 5) (asg (op2 ixV (frzF (opN mkL (consA (opN mkT (consA (cst (.str "and")) (consA (var 3) (consA (opN mkT (consA (cst (.str "true")) nilA)) nilA)))) (consA (opN mkT (consA (cst (.str "or")) (consA (opN mkT (consA (cst (.str "false")) nilA)) (consA (var 3) nilA)))) nilA)))) (opN (callN 2 D__law_pick) (consA (var 1) (consA (cst (.int 2)) nilA)))) (nam 3)))) skp) (Sx ns k (some (.p F.e)) x4 x5) (plO l a :: r) = .ok (.nx (Sx ns k (some (.p F2.e)) x4 x5')) (plO l a2 :: r) ∧ Good F2 ∧ a2 ≤ a + 10 := by
  by_cases hk : k = 3
  · subst hk
    obtain ⟨z1, p1, u1, v1⟩ := c_pick hl hd a (by omega) 3 (by decide) r
    obtain ⟨z2, p2, u2, v2⟩ := c_pick hl hd (a + 1) (by omega) 8 (by decide) r
    obtain ⟨n, hn⟩ : ∃ n : Nat, z2 = n := ⟨z2.toNat, by omega⟩
    subst hn
    let Iv : Nat → Sl → List O → Prop := fun i S os => ∃ (G : Fm) (b : Nat) (x5 : Option D), S = Sx ns 3 (some (.p G.e)) x4 x5 ∧ os = plO l b :: r ∧ b ≤ a + 2 + i ∧ G.wt ∧ G.depth ≤ 1 + i ∧ ∀ ts c, G ≠ .least ts c
    obtain ⟨S', os', h1, G, b, x5', h2, h3, h4, h5, h6, h7⟩ := for_inv_n Iv (ps := List.map (fun k : Nat => P.int (k : Int)) (List.range n)) (n := 0) (S := Sx ns 3 (some (.p (Fm.rest [("x", 1)] 0 (2 + z1)).e)) x4 x5) (os := plO l (a + 1 + 1) :: r) (g := nam 5) (body := (asg (op2 ixV (frzF (opN mkL (consA (opN mkT (consA (cst (.str "and")) (consA (var 3) (consA (opN mkT (consA (cst (.str "true")) nilA)) nilA)))) (consA (opN mkT (consA (cst (.str "or")) (consA (opN mkT (consA (cst (.str "false")) nilA)) (consA (var 3) nilA)))) nilA)))) (opN (callN 2 D__law_pick) (consA (var 1) (consA (cst (.int 2)) nilA)))) (nam 3))) (fun i p hp S os hI => by
      obtain ⟨G, b, x5, e1, e2, e3, e4, e5, e6⟩ := hI
      rw [List.getElem?_map, Option.map_eq_some_iff] at hp
      obtain ⟨j, hj, rfl⟩ := hp
      have hi : i < n := by
        have := (List.getElem?_eq_some_iff.mp hj).1
        simpa using this
      subst e1 e2
      obtain ⟨z3, p3, u3, v3⟩ := c_pick hl hd b (by omega) 2 (by decide) r
      have hz : z3 = 0 ∨ z3 = 1 := by omega
      rcases hz with hz | hz
      · exact ⟨_, rfl, Sx ns 3 (some (.p (Fm.con G .tt).e)) x4 (some (.p (.int j))), plO l (b + 1) :: r, .inl (by simp [p3, hz, Fm.e]), .con G .tt, b + 1, _, rfl, rfl, by omega, ⟨e4, trivial⟩, by simp [Fm.depth]; omega, fun ts c e => by cases e⟩
      · exact ⟨_, rfl, Sx ns 3 (some (.p (Fm.dis .ff G).e)) x4 (some (.p (.int j))), plO l (b + 1) :: r, .inl (by simp [p3, hz, Fm.e]), .dis .ff G, b + 1, _, rfl, rfl, by omega, ⟨trivial, e4⟩, by simp [Fm.depth]; omega, fun ts c e => by cases e⟩) ⟨_, a + 1 + 1, x5, rfl, rfl, by omega, (wt1 0 (by decide) (by decide) : WT 20 [("x", 1 + 0)]), by simp [Fm.depth], fun ts c e => by cases e⟩
    subst h2 h3
    refine ⟨G, b, x5', ?_, ⟨h5, by simp at h6; omega, fun ts c e => absurd e (h7 ts c)⟩, by simp at h4; omega⟩
    have e0 : upto 0 n = List.map (fun k : Nat => P.int (k : Int)) (List.range n) := by simp [upto]
    simp [Fm.e, eTs, eT, Sx] at h1
    simp [Sx, p1, p2, rng_of (n := (n : Int)) (by omega) (by omega), e0, h1]
  · exact ⟨F, a, x5, by simp [show ¬ (k : Int) = 3 by omega], g, by omega⟩
theorem st4 (k : Nat) (o : O) (F : Fm) (g : Good F) (x4 x5 : Option D) (r : List O) : ∃ r2 : List O, (sq (asg (opN (callN 3 D__law_told_rewritten) (consA (var 3) (consA (cst (.int 0)) (consA newK nilA)))) (nam 4)) (sq (iff' (notB (tst (opN (callN 2 (D__law_plainly 20)) (consA (var 4) (consA (opN (callN 1 D__law_or_refused) (consA (opN (callN 1 (D__law_opposite 20)) (consA (var 3) nilA)) nilA)) nilA))))) (ret (cst (.bl false))) skp) (iff' (andB (notB (tst (opN (callN 2 (D__law_equal 20)) (consA (var 4) (consA (opN mkT (consA (cst (.str "refused")) nilA)) nilA))))) (andB (tst (opN (callN 2 (D__law_equal 20)) (consA (opN (callN 3 D__law_told_rewritten) (consA (var 4) (consA (cst (.int 0)) (consA newK nilA)))) (consA (opN mkT (consA (cst (.str "refused")) nilA)) nilA)))) (tst (op2 eqX (op2 ixV (var 3) (cst (.int 0))) (cst (.str "least")))))) (ret (cst (.bl false))) skp))) (Sx ns k (some (.p F.e)) x4 x5) (o :: r) = .ok (.nx (Sx ns k (some (.p F.e)) (some (.p F.opp.told)) x5)) (o :: r2) := by
  have h1 := c_told F g.wt (by have := g.dp; omega) o r
  have hdp := F.opp_depth
  have hd9 := g.dp
  have h2 := m_or F.opp (F.opp_wt g.wt) (by omega)
  have h3 := m_lopposite 20 F g.wt (by omega)
  have h4 := m_plainly 20 15 _ (Fm.told_pl F.opp (F.opp_wt g.wt) (by omega)) (by omega)
  have h5 := m_eqTold F.opp
  have hr : (P.tup [P.str "refused"]) = Fm.ref := rfl
  cases hok : F.opp.ok with
  | false =>
    refine ⟨r ++ [.dK []], ?_⟩
    simp [h1, h2, h3, h4, hr, h5, hok]
  | true =>
    have ht : F.opp.told = F.opp.e := by unfold Fm.told; rw [if_pos hok]
    have hdo : F.opp.opp.depth ≤ F.opp.depth + 1 := F.opp.opp_depth
    have h6 := c_told F.opp (F.opp_wt g.wt) (by omega) o (r ++ [.dK []])
    have h7 := m_eqTold F.opp.opp
    rw [ht] at h4 h5 h1 h2
    refine ⟨r ++ [.dK []] ++ [.dK []], ?_⟩
    rw [ht]
    simp at h6
    cases F with
    | least ts b =>
      have hb := g.le ts b rfl
      have h8 : (Fm.least ts b).opp.opp.ok = true := by
        simp [Fm.opp, Fm.ok, Fm.vp, Fm.depth]
        omega
      simp [h1, h2, h3, h4, hr, h5, hok, h6, h7, h8]
    | tt => cases hk : Fm.tt.opp.opp.ok <;> simp [h1, h2, h3, h4, hr, h5, hok, h6, h7, hk] <;> simp [Fm.e]
    | ff => cases hk : Fm.ff.opp.opp.ok <;> simp [h1, h2, h3, h4, hr, h5, hok, h6, h7, hk] <;> simp [Fm.e]
    | rest ts c m => cases hk : (Fm.rest ts c m).opp.opp.ok <;> simp [h1, h2, h3, h4, hr, h5, hok, h6, h7, hk] <;> simp [Fm.e]
    | neg f => cases hk : (Fm.neg f).opp.opp.ok <;> simp [h1, h2, h3, h4, hr, h5, hok, h6, h7, hk] <;> simp [Fm.e]
    | con f f' => cases hk : (Fm.con f f').opp.opp.ok <;> simp [h1, h2, h3, h4, hr, h5, hok, h6, h7, hk] <;> simp [Fm.e]
    | dis f f' => cases hk : (Fm.dis f f').opp.opp.ok <;> simp [h1, h2, h3, h4, hr, h5, hok, h6, h7, hk] <;> simp [Fm.e]
end
theorem m_law (ns : List Int) : D_law [.p (.scr ns)] [] = .ok (.p (.bl true)) [] := by
  obtain ⟨l, h1, hl, hd⟩ := m_pool ns
  unfold D_law B_law
  have e6 : upto 0 6 = List.map (fun k : Nat => P.int (k : Int)) (List.range 6) := by simp [upto]
  let Iv : Nat → Sl → List O → Prop := fun k S os => ∃ (a : Nat) (r : List O) (a2 x3 x4 x5 : Option D), S = [some (.p (.scr ns)), some (.own 0), a2, x3, x4, x5] ∧ os = plO l a :: r ∧ a ≤ 40 * k
  obtain ⟨S', os', g1, g2⟩ := for_inv_n Iv (ps := List.map (fun k : Nat => P.int (k : Int)) (List.range 6)) (n := 0) (S := [some (.p (.scr ns)), some (.own 0), none, none, none, none]) (os := [plO l 0]) (g := nam 2) (body := (sq (asg (opN (callN 5 D__law_drawn_formula) (consA (var 1) (consA (var 0) (consA (op2 modV (var 2) (cst (.int 4))) (consA (op2 addV (cst (.int 1)) (opN (callN 2 D__law_pick) (consA (var 1) (consA (cst (.int 6)) nilA)))) (consA (op2 addV (cst (.int 1)) (opN (callN 2 D__law_pick) (consA (var 1) (consA (cst (.int 20)) nilA)))) nilA)))))) (nam 3)) (sq (iff' (tst (op2 gtV (var 2) (cst (.int 3)))) (asg (opN mkT (consA (cst (.str "least")) (consA (opN mkT (consA (opN mkT (consA (cst (.str "x")) (consA (op2 addV (cst (.int 1)) (opN (callN 2 D__law_pick) (consA (var 1) (consA (cst (.int 20)) nilA)))) nilA))) nilA)) (consA (op2 subV (opN (callN 2 D__law_pick) (consA (var 1) (consA (cst (.int 3)) nilA))) (cst (.int 20))) nilA)))) (nam 3)) skp) (sq (iff' (tst (op2 eqX (var 2) (cst (.int 3)))) (sq (asg (opN mkT (consA (cst (.str "rest")) (consA (opN mkT (consA (opN mkT (consA (cst (.str "x")) (consA (cst (.int 1)) nilA))) nilA)) (consA (cst (.int 0)) (consA (op2 addV (cst (.int 2)) (opN (callN 2 D__law_pick) (consA (var 1) (consA (cst (.int 3)) nilA)))) nilA))))) (nam 3)) (for' (opN itsR1 (consA (opN (callN 2 D__law_pick) (consA (var 1) (consA (cst (.int 8)) nilA))) nilA)) (nam 5) (asg (op2 ixV (frzF (opN mkL (consA (opN mkT (consA (cst (.str "and")) (consA (var 3) (consA (opN mkT (consA (cst (.str "true")) nilA)) nilA)))) (consA (opN mkT (consA (cst (.str "or")) (consA (opN mkT (consA (cst (.str "false")) nilA)) (consA (var 3) nilA)))) nilA)))) (opN (callN 2 D__law_pick) (consA (var 1) (consA (cst (.int 2)) nilA)))) (nam 3)))) skp) (sq (asg (opN (callN 3 D__law_told_rewritten) (consA (var 3) (consA (cst (.int 0)) (consA newK nilA)))) (nam 4)) (sq (iff' (notB (tst (opN (callN 2 (D__law_plainly 20)) (consA (var 4) (consA (opN (callN 1 D__law_or_refused) (consA (opN (callN 1 (D__law_opposite 20)) (consA (var 3) nilA)) nilA)) nilA))))) (ret (cst (.bl false))) skp) (iff' (andB (notB (tst (opN (callN 2 (D__law_equal 20)) (consA (var 4) (consA (opN mkT (consA (cst (.str "refused")) nilA)) nilA))))) (andB (tst (opN (callN 2 (D__law_equal 20)) (consA (opN (callN 3 D__law_told_rewritten) (consA (var 4) (consA (cst (.int 0)) (consA newK nilA)))) (consA (opN mkT (consA (cst (.str "refused")) nilA)) nilA)))) (tst (op2 eqX (op2 ixV (var 3) (cst (.int 0))) (cst (.str "least")))))) (ret (cst (.bl false))) skp))))))) (fun k p hp S os hI => by
    obtain ⟨a, r, a2, x3, x4, x5, e1, e2, e3⟩ := hI
    rw [List.getElem?_map, Option.map_eq_some_iff] at hp
    obtain ⟨j, hj, rfl⟩ := hp
    have hk : k < 6 := by
      have := (List.getElem?_eq_some_iff.mp hj).1
      simpa using this
    subst e1 e2
    obtain ⟨F1, s1, q1⟩ := st1 hl hd ns j a (by omega) x3 x4 x5 r
    obtain ⟨F2, b2, s2, q2, l2⟩ := st2 hl hd ns j (a + 4) (by omega) F1 q1 x4 x5 r
    obtain ⟨F3, b3, x5', s3, q3, l3⟩ := st3 hl hd ns j b2 (by omega) F2 q2 x4 x5 r
    obtain ⟨r2, s4⟩ := st4 hl hd ns j (plO l b3) F3 q3 x4 x5' r
    refine ⟨Sx ns j x3 x4 x5, rfl, Sx ns j (some (.p F3.e)) (some (.p F3.opp.told)) x5', plO l b3 :: r2, .inl ?_, b3, r2, _, _, _, _, rfl, rfl, by omega⟩
    rw [e_sq, s1, bind_ok, k_sq, e_sq, s2, bind_ok, k_sq, e_sq, s3, bind_ok, k_sq, s4]) ⟨0, [], none, none, none, none, rfl, rfl, by omega⟩
  have r6 := rng_of (n := 6) (by decide) (by decide)
  have hpl : O.flat (.lst [.lst (l.map P.int), .int 0]) = true := rfl
  have g1' := g1
  unfold plO at g1'
  simp [-for_cons, -e_for, h1, hpl]
  rw [e_for]
  simp [-for_cons, -e_sq, r6, e6]
  have g3 : ∀ k : Nat, ((k : Nat) : Int) = (k : Int) := fun _ => rfl
  erw [g1']
  simp
end DL
/-! printed by headgen2.py -/
namespace DL
open PySem PySem.Spec
open PyProof.Rows L2
theorem kd_mem {tab : List (Str × Str)} {z y : Str} (h : tab.lookup z = some y) : (z, He.Dv.str y) ∈ tab.map fun r => (r.1, He.Dv.str r.2) := by
  induction tab with
  | nil => cases h
  | cons r tab ih =>
    obtain ⟨a, b⟩ := r
    rw [List.lookup_cons] at h
    cases e : z == a with
    | true =>
      rw [e] at h
      cases h
      have e2 : z = a := by simpa using e
      rw [e2]
      simp
    | false =>
      rw [e] at h
      exact List.mem_cons_of_mem _ (ih h)
theorem kd_of {K : PySem.W.Frag} {w : World} {a : Addr} {es : Array DictEntry} {n : Nat} {tab : List (Str × Str)} (d : KDict K w a es n) (h : He.valsB K a (tab.map fun r => (r.1, He.Dv.str r.2)) = true) : ∀ z y, tab.lookup z = some y → KDct K w a z (.str y) := fun z y hz =>
  let ⟨u, h1, h2⟩ := He.valsB_ok h (kd_mem hz)
  ⟨es, n, u, d.at_, d.lit, h1, h2⟩
def d0 : He.DefD := ⟨("_law_draws", none), "_law_draws", "_law_draws", defArgs (top 42), defBody (top 42), defScope (top 42), [], []⟩
def d1 : He.DefD := ⟨("_law_cell", none), "_law_cell", "_law_cell", defArgs (top 41), defBody (top 41), defScope (top 41), [], []⟩
def d2 : He.DefD := ⟨("_law_pool", none), "_law_pool", "_law_pool", defArgs (top 47), defBody (top 47), defScope (top 47), [], []⟩
def d3 : He.DefD := ⟨("_law_var", none), "_law_var", "_law_var", defArgs (top 43), defBody (top 43), defScope (top 43), [], []⟩
def d4 : He.DefD := ⟨("_law_terms", none), "_law_terms", "_law_terms", defArgs (top 44), defBody (top 44), defScope (top 44), [], []⟩
def d5 : He.DefD := ⟨("_law_formula", none), "_law_formula", "_law_formula", defArgs (top 45), defBody (top 45), defScope (top 45), [], []⟩
def d6 : He.DefD := ⟨("_law_pick", none), "_law_pick", "_law_pick", defArgs (top 48), defBody (top 48), defScope (top 48), [], []⟩
def d7 : He.DefD := ⟨("_law_drawn_formula", none), "_law_drawn_formula", "_law_drawn_formula", defArgs (top 54), defBody (top 54), defScope (top 54), [], []⟩
def d8 : He.DefD := ⟨("is_name", none), "is_name", "is_name", defArgs (top 7), defBody (top 7), defScope (top 7), [], []⟩
def d9 : He.DefD := ⟨("is_variable", none), "is_variable", "is_variable", defArgs (top 13), defBody (top 13), defScope (top 13), [], []⟩
def d10 : He.DefD := ⟨("are_terms", none), "are_terms", "are_terms", defArgs (top 14), defBody (top 14), defScope (top 14), [], []⟩
def d11 : He.DefD := ⟨("parts_of", none), "parts_of", "parts_of", defArgs (top 15), defBody (top 15), defScope (top 15), [], []⟩
def d12 : He.DefD := ⟨("has_valid_parts", none), "has_valid_parts", "has_valid_parts", defArgs (top 19), defBody (top 19), defScope (top 19), [], []⟩
def d13 : He.DefD := ⟨("depth", none), "depth", "depth", defArgs (top 16), defBody (top 16), defScope (top 16), [], []⟩
def d14 : He.DefD := ⟨("collect", none), "collect", "collect", defArgs (top 17), defBody (top 17), defScope (top 17), [], []⟩
def d15 : He.DefD := ⟨("variables", none), "variables", "variables", defArgs (top 18), defBody (top 18), defScope (top 18), [], []⟩
def d16 : He.DefD := ⟨("is_formula", none), "is_formula", "is_formula", defArgs (top 20), defBody (top 20), defScope (top 20), [], []⟩
def d17 : He.DefD := ⟨("demand_formula", none), "demand_formula", "demand_formula", defArgs (top 30), defBody (top 30), defScope (top 30), [], []⟩
def d18 : He.DefD := ⟨("opposite", none), "opposite", "opposite", defArgs (top 29), defBody (top 29), defScope (top 29), [], []⟩
def d19 : He.DefD := ⟨("negated", none), "negated", "negated", defArgs (top 31), defBody (top 31), defScope (top 31), [], []⟩
def d20 : He.DefD := ⟨("_law_told_rewritten", none), "_law_told_rewritten", "_law_told_rewritten", defArgs (top 56), defBody (top 56), defScope (top 56), [], []⟩
def d21 : He.DefD := ⟨("_law_plainly", none), "_law_plainly", "_law_plainly", defArgs (top 59), defBody (top 59), defScope (top 59), [], []⟩
def d22 : He.DefD := ⟨("_law_equal", none), "_law_equal", "_law_equal", defArgs (top 58), defBody (top 58), defScope (top 58), [], []⟩
def d23 : He.DefD := ⟨("_law_is_variable", none), "_law_is_variable", "_law_is_variable", defArgs (top 50), defBody (top 50), defScope (top 50), [], []⟩
def d24 : He.DefD := ⟨("_law_right_terms", none), "_law_right_terms", "_law_right_terms", defArgs (top 51), defBody (top 51), defScope (top 51), [], []⟩
def d25 : He.DefD := ⟨("_law_right_parts", none), "_law_right_parts", "_law_right_parts", defArgs (top 52), defBody (top 52), defScope (top 52), [], []⟩
def d26 : He.DefD := ⟨("_law_depth", none), "_law_depth", "_law_depth", defArgs (top 49), defBody (top 49), defScope (top 49), [], []⟩
def d27 : He.DefD := ⟨("_law_vars", none), "_law_vars", "_law_vars", defArgs (top 46), defBody (top 46), defScope (top 46), [], []⟩
def d28 : He.DefD := ⟨("_law_is_formula", none), "_law_is_formula", "_law_is_formula", defArgs (top 53), defBody (top 53), defScope (top 53), [], []⟩
def d29 : He.DefD := ⟨("_law_or_refused", none), "_law_or_refused", "_law_or_refused", defArgs (top 57), defBody (top 57), defScope (top 57), [], []⟩
def d30 : He.DefD := ⟨("_law_opposite", none), "_law_opposite", "_law_opposite", defArgs (top 55), defBody (top 55), defScope (top 55), [], []⟩
def d31 : He.DefD := ⟨("law", none), "law", "law", defArgs (top 60), defBody (top 60), defScope (top 60), [], []⟩
def fnL : List He.DefD := [d0, d1, d2, d3, d4, d5, d6, d7, d8, d9, d10, d11, d12, d13, d14, d15, d16, d17, d18, d19, d20, d21, d22, d23, d24, d25, d26, d27, d28, d29, d30, d31]
def faL : List He.Fa := [.glo "_law_draws", .glo "_law_cell", .glo "_law_pool", .glo "_law_var", .glo "_law_terms", .glo "_law_formula", .glo "_law_pick", .glo "_law_drawn_formula", .glo "is_name", .glo "is_variable", .glo "are_terms", .glo "parts_of", .glo "has_valid_parts", .glo "depth", .glo "collect", .glo "variables", .glo "is_formula", .glo "demand_formula", .glo "opposite", .glo "negated", .glo "_law_told_rewritten", .glo "_law_plainly", .glo "_law_equal", .glo "_law_is_variable", .glo "_law_right_terms", .glo "_law_right_parts", .glo "_law_depth", .glo "_law_vars", .glo "_law_is_formula", .glo "_law_or_refused", .glo "_law_opposite", .glo "law", .free "all", .free "bool", .free "dict", .free "int", .free "isinstance", .free "len", .free "list", .free "max", .free "min", .free "range", .free "sorted", .free "str", .free "tuple", .int "DEEPEST" 8, .str "DIGITS" "0123456789", .int "GREATEST" 20, .str "LETTERS" "abcdefghijklmnopqrstuvwxyz", .int "LONGEST_NAME" 12, .int "MOST_VARIABLES" 8, .glo "OPPOSITE", .glo "WORDS", .glo "InvalidFormula", .exc "InvalidFormula", .exm "InvalidFormula" "InvalidFormula" true]
def tsL : List He.Tab := [(fun K => He.ga K "OPPOSITE", ["and", "or", "true", "false"])]
def exL (K : PySem.W.Frag) : Bool := He.valsB K (He.ga K "OPPOSITE") [("and", .str "or"), ("or", .str "and"), ("true", .str "false"), ("false", .str "true")] && (He.tupB K "WORDS" [.str "and", .str "or", .str "not", .str "true", .str "false", .str "mod"])
def loose : List Str := (["MingleError", "InvalidFormula", "LETTERS", "DIGITS", "LONGEST_NAME", "is_name", "WORDS", "GREATEST", "MOST_VARIABLES", "DEEPEST", "is_variable", "are_terms", "parts_of", "depth", "collect", "variables", "has_valid_parts", "is_formula", "terms_of", "least_of", "rest_of", "common", "OPPOSITE", "opposite", "demand_formula", "negated", "small_least", "small_rest", "small_pair", "small"] : List Str) ++ (["simplified", "renamed_terms", "with_names", "replaced", "_law_cell", "_law_draws", "_law_var", "_law_terms", "_law_formula", "_law_vars", "_law_pool", "_law_pick", "_law_depth", "_law_is_variable", "_law_right_terms", "_law_right_parts", "_law_is_formula", "_law_drawn_formula", "_law_opposite", "_law_told_rewritten", "_law_or_refused", "_law_equal", "_law_plainly"] : List Str)
abbrev R : PySem.W.OpenRow := PySem.W.OpenLaw.row PySem.Challenge.rw_mingle_k80_negated_formulas
abbrev hk : PySem.W.Hook := He.hookX 5 faL fnL tsL [] exL
def ob (s : PySem.W.SharedT) : He.AlX := He.obsX 5 faL fnL tsL [] exL (HandSHeadRun.getT s)
theorem ob_eq (s : PySem.W.SharedT) : ob s = hk.obs s.abs := He.obsX_eq (HandSHeadRun.getT_eq s)
abbrev RunP (w : World) : Prop := HandSHeadRun.RunEq R (PySem.W.view R.prog [60]) hk ob 4000 loose w
theorem run1 (w : World) : RunP (w.withFollow "special-get-raises" false) := by intro os; kernel_rfl
theorem run2 (w : World) : RunP (w.withFollow "special-get-raises" true) := by intro os; kernel_rfl
theorem run (w : World) : RunP w := PySem.W.byRow2 "special-get-raises" (P := RunP) run1 run2 w
theorem facts {P : Program} {w : World} {K : PySem.W.Frag} {h : Heap} {mg : Str → Option Value} (X : K.In h) (G : h.Ns mainGlobals mg) (c : He.SaysX faL fnL tsL [] exL w h K) (base : Heap) : Tx P w K mg base := by
  have m0 : (He.valsB K (He.ga K "OPPOSITE") [("and", .str "or"), ("or", .str "and"), ("true", .str "false"), ("false", .str "true")] && (He.tupB K "WORDS" [.str "and", .str "or", .str "not", .str "true", .str "false", .str "mod"])) = true := c.more
  obtain ⟨e0, e1⟩ := He.ba m0
  exact {
    g__law_draws := He.glo_ok X G (c.t.d.fact 0 (f := .glo "_law_draws") rfl)
    F__law_draws := c.t.d.def_ 0 (d := d0) rfl
    g__law_cell := He.glo_ok X G (c.t.d.fact 1 (f := .glo "_law_cell") rfl)
    F__law_cell := c.t.d.def_ 1 (d := d1) rfl
    g__law_pool := He.glo_ok X G (c.t.d.fact 2 (f := .glo "_law_pool") rfl)
    F__law_pool := c.t.d.def_ 2 (d := d2) rfl
    g__law_var := He.glo_ok X G (c.t.d.fact 3 (f := .glo "_law_var") rfl)
    F__law_var := c.t.d.def_ 3 (d := d3) rfl
    g__law_terms := He.glo_ok X G (c.t.d.fact 4 (f := .glo "_law_terms") rfl)
    F__law_terms := c.t.d.def_ 4 (d := d4) rfl
    g__law_formula := He.glo_ok X G (c.t.d.fact 5 (f := .glo "_law_formula") rfl)
    F__law_formula := c.t.d.def_ 5 (d := d5) rfl
    g__law_pick := He.glo_ok X G (c.t.d.fact 6 (f := .glo "_law_pick") rfl)
    F__law_pick := c.t.d.def_ 6 (d := d6) rfl
    g__law_drawn_formula := He.glo_ok X G (c.t.d.fact 7 (f := .glo "_law_drawn_formula") rfl)
    F__law_drawn_formula := c.t.d.def_ 7 (d := d7) rfl
    g_is_name := He.glo_ok X G (c.t.d.fact 8 (f := .glo "is_name") rfl)
    F_is_name := c.t.d.def_ 8 (d := d8) rfl
    g_is_variable := He.glo_ok X G (c.t.d.fact 9 (f := .glo "is_variable") rfl)
    F_is_variable := c.t.d.def_ 9 (d := d9) rfl
    g_are_terms := He.glo_ok X G (c.t.d.fact 10 (f := .glo "are_terms") rfl)
    F_are_terms := c.t.d.def_ 10 (d := d10) rfl
    g_parts_of := He.glo_ok X G (c.t.d.fact 11 (f := .glo "parts_of") rfl)
    F_parts_of := c.t.d.def_ 11 (d := d11) rfl
    g_has_valid_parts := He.glo_ok X G (c.t.d.fact 12 (f := .glo "has_valid_parts") rfl)
    F_has_valid_parts := c.t.d.def_ 12 (d := d12) rfl
    g_depth := He.glo_ok X G (c.t.d.fact 13 (f := .glo "depth") rfl)
    F_depth := c.t.d.def_ 13 (d := d13) rfl
    g_collect := He.glo_ok X G (c.t.d.fact 14 (f := .glo "collect") rfl)
    F_collect := c.t.d.def_ 14 (d := d14) rfl
    g_variables := He.glo_ok X G (c.t.d.fact 15 (f := .glo "variables") rfl)
    F_variables := c.t.d.def_ 15 (d := d15) rfl
    g_is_formula := He.glo_ok X G (c.t.d.fact 16 (f := .glo "is_formula") rfl)
    F_is_formula := c.t.d.def_ 16 (d := d16) rfl
    g_demand_formula := He.glo_ok X G (c.t.d.fact 17 (f := .glo "demand_formula") rfl)
    F_demand_formula := c.t.d.def_ 17 (d := d17) rfl
    g_opposite := He.glo_ok X G (c.t.d.fact 18 (f := .glo "opposite") rfl)
    F_opposite := c.t.d.def_ 18 (d := d18) rfl
    g_negated := He.glo_ok X G (c.t.d.fact 19 (f := .glo "negated") rfl)
    F_negated := c.t.d.def_ 19 (d := d19) rfl
    g__law_told_rewritten := He.glo_ok X G (c.t.d.fact 20 (f := .glo "_law_told_rewritten") rfl)
    F__law_told_rewritten := c.t.d.def_ 20 (d := d20) rfl
    g__law_plainly := He.glo_ok X G (c.t.d.fact 21 (f := .glo "_law_plainly") rfl)
    F__law_plainly := c.t.d.def_ 21 (d := d21) rfl
    g__law_equal := He.glo_ok X G (c.t.d.fact 22 (f := .glo "_law_equal") rfl)
    F__law_equal := c.t.d.def_ 22 (d := d22) rfl
    g__law_is_variable := He.glo_ok X G (c.t.d.fact 23 (f := .glo "_law_is_variable") rfl)
    F__law_is_variable := c.t.d.def_ 23 (d := d23) rfl
    g__law_right_terms := He.glo_ok X G (c.t.d.fact 24 (f := .glo "_law_right_terms") rfl)
    F__law_right_terms := c.t.d.def_ 24 (d := d24) rfl
    g__law_right_parts := He.glo_ok X G (c.t.d.fact 25 (f := .glo "_law_right_parts") rfl)
    F__law_right_parts := c.t.d.def_ 25 (d := d25) rfl
    g__law_depth := He.glo_ok X G (c.t.d.fact 26 (f := .glo "_law_depth") rfl)
    F__law_depth := c.t.d.def_ 26 (d := d26) rfl
    g__law_vars := He.glo_ok X G (c.t.d.fact 27 (f := .glo "_law_vars") rfl)
    F__law_vars := c.t.d.def_ 27 (d := d27) rfl
    g__law_is_formula := He.glo_ok X G (c.t.d.fact 28 (f := .glo "_law_is_formula") rfl)
    F__law_is_formula := c.t.d.def_ 28 (d := d28) rfl
    g__law_or_refused := He.glo_ok X G (c.t.d.fact 29 (f := .glo "_law_or_refused") rfl)
    F__law_or_refused := c.t.d.def_ 29 (d := d29) rfl
    g__law_opposite := He.glo_ok X G (c.t.d.fact 30 (f := .glo "_law_opposite") rfl)
    F__law_opposite := c.t.d.def_ 30 (d := d30) rfl
    g_law := He.glo_ok X G (c.t.d.fact 31 (f := .glo "law") rfl)
    F_law := c.t.d.def_ 31 (d := d31) rfl
    b_all := He.free_ok X G (c.t.d.fact 32 (f := .free "all") rfl)
    b_bool := He.free_ok X G (c.t.d.fact 33 (f := .free "bool") rfl)
    b_dict := He.free_ok X G (c.t.d.fact 34 (f := .free "dict") rfl)
    b_int := He.free_ok X G (c.t.d.fact 35 (f := .free "int") rfl)
    b_isinstance := He.free_ok X G (c.t.d.fact 36 (f := .free "isinstance") rfl)
    b_len := He.free_ok X G (c.t.d.fact 37 (f := .free "len") rfl)
    b_list := He.free_ok X G (c.t.d.fact 38 (f := .free "list") rfl)
    b_max := He.free_ok X G (c.t.d.fact 39 (f := .free "max") rfl)
    b_min := He.free_ok X G (c.t.d.fact 40 (f := .free "min") rfl)
    b_range := He.free_ok X G (c.t.d.fact 41 (f := .free "range") rfl)
    b_sorted := He.free_ok X G (c.t.d.fact 42 (f := .free "sorted") rfl)
    b_str := He.free_ok X G (c.t.d.fact 43 (f := .free "str") rfl)
    b_tuple := He.free_ok X G (c.t.d.fact 44 (f := .free "tuple") rfl)
    c_DEEPEST := He.int_ok X G (c.t.d.fact 45 (f := .int "DEEPEST" 8) rfl)
    c_DIGITS := He.str_ok X G (c.t.d.fact 46 (f := .str "DIGITS" "0123456789") rfl)
    c_GREATEST := He.int_ok X G (c.t.d.fact 47 (f := .int "GREATEST" 20) rfl)
    c_LETTERS := He.str_ok X G (c.t.d.fact 48 (f := .str "LETTERS" "abcdefghijklmnopqrstuvwxyz") rfl)
    c_LONGEST_NAME := He.int_ok X G (c.t.d.fact 49 (f := .int "LONGEST_NAME" 12) rfl)
    c_MOST_VARIABLES := He.int_ok X G (c.t.d.fact 50 (f := .int "MOST_VARIABLES" 8) rfl)
    g_OPPOSITE := He.glo_ok X G (c.t.d.fact 51 (f := .glo "OPPOSITE") rfl)
    c_OPPOSITE := fun z y hz => kd_of (tab := [("and", "or"), ("or", "and"), ("true", "false"), ("false", "true")]) (c.t.tab 0).choose_spec.choose_spec e0 z y hz
    g_WORDS := He.glo_ok X G (c.t.d.fact 52 (f := .glo "WORDS") rfl)
    c_WORDS := fun H => He.tupB_ok e1 H
    g_InvalidFormula := He.glo_ok X G (c.t.d.fact 53 (f := .glo "InvalidFormula") rfl)
    x_InvalidFormula := c.t.d.fact 54 (f := .exc "InvalidFormula") rfl
    xm_InvalidFormula := fun y b hb => by
        unfold exTab at hb
        split at hb
        · rename_i e
          cases hb
          rw [e]
          exact He.exm_ok (c.t.d.fact 55 (f := .exm "InvalidFormula" "InvalidFormula" true) rfl)
        · cases hb }
theorem sp_law {K : PySem.W.Frag} (H : Hp) (a : Addr) (ns : List Int) (hS : SqL K H a (ns.map V.int)) : spD K 1 D_law [.ref a] H (fun v _ => v = .bl true) fun _ _ _ => False := by
  refine ⟨H, ⟨[], fun _ => none⟩, [], [.p (.scr ns)], rfl, ⟨rfl, fun b _ _ => rfl, fun i o b h => by simp at h, fun i o b h => by simp at h, fun i j o u b h => by simp at h, fun b o h => by cases h⟩, .cons (.scr hS) .nil, ?_⟩
  rw [m_law ns]
  intro F1 ad1 H1 v g w1 r1
  cases r1
  rfl
end DL
open PySem PySem.W PySem.Calls PyProof.Rows
theorem PySem.Challenge.cw_mingle_k80_negated_formulas_holds : PySem.Challenge.rw_mingle_k80_negated_formulas.Holds := by
  w_on; o_law
  refine HandSHeadRun.head_any (r := OpenLaw.row PySem.Challenge.rw_mingle_k80_negated_formulas) (q := view (OpenLaw.row PySem.Challenge.rw_mingle_k80_negated_formulas).prog [60]) (H := DL.hk) (ob := DL.ob) (M := 4000) (loose := DL.loose) (d := HandSHeadRun.topDef (OpenLaw.row PySem.Challenge.rw_mingle_k80_negated_formulas).prog 60) (kwd := []) DL.ob_eq
    (by kernel_rfl) (fun s => by kernel_rfl) DL.run (by kernel_rfl) (by kernel_rfl) (by kernel_rfl) (by rfl) (by first | assumption | decide +kernel) (by decide +kernel) ⟨rfl, rfl, rfl, rfl, rfl, by decide +kernel⟩ ?hw ?hc
  case hw => w_witness2
  case hc =>
    refine LamX.walk_ofTsE (l := PySem.Challenge.rw_mingle_k80_negated_formulas) (n := 63) (k := 28) (x := "script") (CX := fun w => L2.CX (PySem.Challenge.rw_mingle_k80_negated_formulas).prog w) rfl (by decide) (by kernel_rfl) ⟨rfl, by decide, by decide⟩ ?F ?X
    case X => exact fun w H s e s' ⟨_, _, _, _, _, _, _, _, _, _, _, _, z⟩ => z
    case F =>
      intro w mg fa h Y G hmg0
      obtain ⟨K, KX, c⟩ := Y
      have hmg : mg ("law" : PySem.Str) = some (.ref fa) := by
        have e : (HandSHeadRun.topDef (OpenLaw.row PySem.Challenge.rw_mingle_k80_negated_formulas).prog 60).name = ("law" : PySem.Str) := by kernel_rfl
        rw [← e]
        exact hmg0
      obtain ⟨fd, F⟩ := (DL.facts (P := (PySem.Challenge.rw_mingle_k80_negated_formulas).prog) KX G c h).F_law
      have hg := (DL.facts (P := (PySem.Challenge.rw_mingle_k80_negated_formulas).prog) KX G c h).g_law
      rw [hg] at hmg
      cases hmg
      have b := L2.FunD.bindsA (ps := ["script"]) F fun _ _ _ _ _ _ us hl => match us, hl with | [_], _ => rfl
      refine ⟨K, KX, fd, [], DL.spD K 1 DL.D_law, fun p hp => (by cases hp), fun p hp => (by cases hp), fun p hp => (by cases hp), fun s v => b s [v] rfl, fun H a ns _ _ _ hS => DL.sp_law H a ns hS, fun base hb hG _ => ?_⟩
      exact DL.wf_law (DL.facts (P := (PySem.Challenge.rw_mingle_k80_negated_formulas).prog) (w := w) KX G c base) F
