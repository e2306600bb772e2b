import PyProof.Rows.All
import Wide.All
import OpenK.AllK
import Wide.FinOn
import HandS.ForMost
import HandS.Deep
import HandS.Flow
import HandS.WordsExc
import HandS.TryOnly
import HandS.Wide
import HandS.IsInst
import HandS.TupAny
import HandS.Conv
import HandS.Defaults
import HandS.RaiseMore
import HandS.SortInts
import PyProof.FitsInt
import HandS.ExcInit
import HandS.ExcField
import HandS.Property
import HandS.ClsMeth
import HandS.Codes
import HandS.Style
import HandS.FStr
import HandS.Text
import HandS.Star
import HandS.More
import HandS.MakeKwOnly
import HandS.Zip0
import HandS.Zip
import HandS.NoneIn
import HandS.Comp
import HandS.Ends
import HandS.HeadEnd
import HandS.Head0
import HandS.Head1
import HandS.Head2
import HandS.HeadHook1
import HandS.HeadHook2
import HandS.HeadNt
import PySem.Challenge.RW_sureatlast_k04_books_of_any_value
set_option Elab.async false
set_option linter.all false
set_option maxRecDepth 100000
set_option maxHeartbeats 4000000
/-! Data without a heap, and how values of the hand layer stand for it. -/
namespace DL
open PySem L2

/-- a value as data; obj c fs: an instance of the c-th class; atom n: a thing by itself -/
inductive D where
  | non | bl (b : Bool) | int (i : Int) | str (x : Str)
  | lst (xs : List D) | tup (xs : List D) | dct (ks vs : List D)
  | obj (c : Nat) (fs : List D) | atom (n : Nat)

/-- what a law fixes: the written part, the things by themselves, the deck's dict and its list, the classes -/
structure RP where
  K : PySem.W.Frag
  atm : Nat → V
  dd : Addr
  dl : Addr
  cls : Nat → Addr
  flds : Nat → List Str
  dob : Int → Int → HO

/-- a text within the line, of signs -/
def SOk (x : Str) : Prop := x.length ≤ sizeLine ∧ PyData.strOk x = true
/-- a list, a tuple that is read: tracked where M does not bar it, or written by the top -/
def LsM (K : PySem.W.Frag) (M : Addr → Prop) (H : Hp) (a : Addr) (xs : List V) : Prop := ¬ M a ∧ H a = some (.lst xs)
def TpM (K : PySem.W.Frag) (M : Addr → Prop) (H : Hp) (a : Addr) (xs : List V) : Prop := (¬ M a ∧ H a = some (.tup xs)) ∨
    ∃ (o : Obj) (its : Array Value) (n : Nat), K.lookup a = some o ∧ o.cls = .type "tuple" ∧ o.data = .seq its n ∧ its.size ≤ sizeLine ∧ Vals xs its.toList
theorem LsM.sq {K : PySem.W.Frag} {M : Addr → Prop} {H : Hp} {a : Addr} {xs : List V} (h : LsM K M H a xs) : SqL K H a xs := SqL.of h.2
theorem TpM.sq {K : PySem.W.Frag} {M : Addr → Prop} {H : Hp} {a : Addr} {xs : List V} (h : TpM K M H a xs) : SqT K H a xs := h.elim (fun z => SqT.of z.2) .inr

mutual
inductive Rep (R : RP) (M : Addr → Prop) (H : Hp) : V → D → Prop
  | non : Rep R M H .non .non
  | bl (b : Bool) : Rep R M H (.bl b) (.bl b)
  | int (i : Int) : Rep R M H (.int i) (.int i)
  | str (x : Str) : SOk x → Rep R M H (.str x) (.str x)
  | lst {a : Addr} {xs : List V} {ds : List D} : LsM R.K M H a xs → xs.length ≤ sizeLine → RepAll R M H xs ds → Rep R M H (.ref a) (.lst ds)
  | tup {a : Addr} {xs : List V} {ds : List D} : TpM R.K M H a xs → xs.length ≤ sizeLine → RepAll R M H xs ds → Rep R M H (.ref a) (.tup ds)
  | dct {a : Addr} {kvs : List (Key × V)} {ks vs : List D} : ¬ M a → H a = some (.dK kvs) → kvs.length ≤ sizeLine → RepAll R M H (kvs.map fun p => kV p.1) ks → RepAll R M H (kvs.map (·.2)) vs → Rep R M H (.ref a) (.dct ks vs)
  | obj {a dx : Addr} {c : Nat} {fvs : List (Str × V)} {fs : List D} : ¬ M a → H a = some (.ins (R.cls c) dx fvs) → fvs.map (·.1) = R.flds c → RepAll R M H (fvs.map (·.2)) fs → Rep R M H (.ref a) (.obj c fs)
  | atom (n : Nat) : Rep R M H (R.atm n) (.atom n)
inductive RepAll (R : RP) (M : Addr → Prop) (H : Hp) : List V → List D → Prop
  | nil : RepAll R M H [] []
  | cons {v : V} {d : D} {vs : List V} {ds : List D} : Rep R M H v d → RepAll R M H vs ds → RepAll R M H (v :: vs) (d :: ds)
end

/-- the heap goes on, but for what M holds -/
def ExtM (M : Addr → Prop) (H H' : Hp) : Prop := ∀ a o, ¬ M a → H a = some o → H' a = some o
theorem ExtM.refl {M : Addr → Prop} {H : Hp} : ExtM M H H := fun _ _ _ h => h
theorem ExtM.trans {M M' : Addr → Prop} {H H1 H2 : Hp} (a : ExtM M H H1) (b : ExtM M' H1 H2) (hm : ∀ a, M' a → M a) : ExtM M H H2 := fun c o n h => b c o (fun z => n (hm c z)) (a c o n h)
theorem ExtM.of_same {M : Addr → Prop} {H H' : Hp} (a : Same H H') : ExtM M H H' := fun c o _ h => a c o h
theorem ExtM.alloc {M : Addr → Prop} {H : Hp} {p : Addr} {o : HO} (h : H p = none) : ExtM M H (upd H p o) := fun a u _ e => by rw [upd_ne (ne_of_none e h)]; exact e
theorem Same.alloc {H : Hp} {p : Addr} {o : HO} (h : H p = none) : Same H (upd H p o) := fun a u e => by rw [upd_ne (ne_of_none e h)]; exact e

section
variable {R : RP} {M M' : Addr → Prop} {H H' : Hp} {K : PySem.W.Frag} {a : Addr} {xs : List V}
theorem LsM.keep (hm : ∀ a, M' a → M a) (k : ExtM M H H') (h : LsM K M H a xs) : LsM K M' H' a xs := ⟨fun y => h.1 (hm _ y), k _ _ h.1 h.2⟩
theorem TpM.keep (hm : ∀ a, M' a → M a) (k : ExtM M H H') (h : TpM K M H a xs) : TpM K M' H' a xs := h.elim (fun z => .inl ⟨fun y => z.1 (hm _ y), k _ _ z.1 z.2⟩) .inr
theorem bar_ne {p : Addr} {u : HO} (hp : H p = none) (h : H a = some u) : a ≠ p := fun e => by
  rw [e, hp] at h; cases h
theorem LsM.bar {p : Addr} (hp : H p = none) (h : LsM K M H a xs) : LsM K (fun a => M a ∨ a = p) H a xs := ⟨fun y => y.elim h.1 (bar_ne hp h.2), h.2⟩
theorem TpM.bar {p : Addr} (hp : H p = none) (h : TpM K M H a xs) : TpM K (fun a => M a ∨ a = p) H a xs := h.elim (fun z => .inl ⟨fun y => y.elim z.1 (bar_ne hp z.2), z.2⟩) .inr
mutual
/-- kept while the heap goes on, and where less is barred -/
theorem Rep.keep (hm : ∀ a, M' a → M a) (k : ExtM M H H') : ∀ {v : V} {d : D}, Rep R M H v d → Rep R M' H' v d
  | _, _, .non => .non
  | _, _, .bl b => .bl b
  | _, _, .int i => .int i
  | _, _, .str x h => .str x h
  | _, _, .lst h l r => .lst (h.keep hm k) l (RepAll.keep hm k r)
  | _, _, .tup h l r => .tup (h.keep hm k) l (RepAll.keep hm k r)
  | _, _, .dct n h l r1 r2 => .dct (fun z => n (hm _ z)) (k _ _ n h) l (RepAll.keep hm k r1) (RepAll.keep hm k r2)
  | _, _, .obj n h e r => .obj (fun z => n (hm _ z)) (k _ _ n h) e (RepAll.keep hm k r)
  | _, _, .atom n => .atom n
theorem RepAll.keep (hm : ∀ a, M' a → M a) (k : ExtM M H H') : ∀ {vs : List V} {ds : List D}, RepAll R M H vs ds → RepAll R M' H' vs ds
  | _, _, .nil => .nil
  | _, _, .cons r t => .cons (Rep.keep hm k r) (RepAll.keep hm k t)
end
mutual
/-- a further address that is not there may be barred -/
theorem Rep.bar {p : Addr} (hp : H p = none) : ∀ {v : V} {d : D}, Rep R M H v d → Rep R (fun a => M a ∨ a = p) H v d
  | _, _, .non => .non
  | _, _, .bl b => .bl b
  | _, _, .int i => .int i
  | _, _, .str x h => .str x h
  | _, _, .lst h l r => .lst (h.bar hp) l (RepAll.bar hp r)
  | _, _, .tup h l r => .tup (h.bar hp) l (RepAll.bar hp r)
  | _, _, .dct n h l r1 r2 => .dct (fun z => z.elim n fun e => by subst e; rw [hp] at h; cases h) h l (RepAll.bar hp r1) (RepAll.bar hp r2)
  | _, _, .obj n h e r => .obj (fun z => z.elim n fun e => by subst e; rw [hp] at h; cases h) h e (RepAll.bar hp r)
  | _, _, .atom n => .atom n
theorem RepAll.bar {p : Addr} (hp : H p = none) : ∀ {vs : List V} {ds : List D}, RepAll R M H vs ds → RepAll R (fun a => M a ∨ a = p) H vs ds
  | _, _, .nil => .nil
  | _, _, .cons r t => .cons (Rep.bar hp r) (RepAll.bar hp t)
end
end
end DL

set_option Elab.async false
set_option linter.all false
set_option maxRecDepth 100000
set_option maxHeartbeats 4000000
namespace DL
open PySem L2

section
variable {R : RP} {M M' : Addr → Prop} {H H' : Hp}
theorem RepAll.length : ∀ {vs : List V} {ds : List D}, RepAll R M H vs ds → vs.length = ds.length
  | _, _, .nil => rfl
  | _, _, .cons _ t => by simp [RepAll.length t]
theorem RepAll.get : ∀ {vs : List V} {ds : List D} {i : Nat} {d : D}, RepAll R M H vs ds → ds[i]? = some d → ∃ v, vs[i]? = some v ∧ Rep R M H v d
  | _, _, _, _, .nil, e => by simp at e
  | _, _, 0, _, .cons r _, e => by simp at e; subst e; exact ⟨_, rfl, r⟩
  | _, _, i + 1, _, .cons _ t, e => by
    obtain ⟨v, h1, h2⟩ := RepAll.get (i := i) t (by simpa using e)
    exact ⟨v, by simpa using h1, h2⟩
theorem RepAll.getV : ∀ {vs : List V} {ds : List D} {i : Nat} {v : V}, RepAll R M H vs ds → vs[i]? = some v → ∃ d, ds[i]? = some d ∧ Rep R M H v d
  | _, _, _, _, .nil, e => by simp at e
  | _, _, 0, _, .cons r _, e => by simp at e; subst e; exact ⟨_, rfl, r⟩
  | _, _, i + 1, _, .cons _ t, e => by
    obtain ⟨v, h1, h2⟩ := RepAll.getV (i := i) t (by simpa using e)
    exact ⟨v, by simpa using h1, h2⟩
theorem RepAll.append : ∀ {vs ws : List V} {ds es : List D}, RepAll R M H vs ds → RepAll R M H ws es → RepAll R M H (vs ++ ws) (ds ++ es)
  | _, _, _, _, .nil, s => s
  | _, _, _, _, .cons r t, s => .cons r (RepAll.append t s)
theorem RepAll.take : ∀ {vs : List V} {ds : List D} (n : Nat), RepAll R M H vs ds → RepAll R M H (vs.take n) (ds.take n)
  | _, _, 0, _ => .nil
  | _, _, _ + 1, .nil => .nil
  | _, _, n + 1, .cons r t => .cons r (RepAll.take n t)
theorem RepAll.drop : ∀ {vs : List V} {ds : List D} (n : Nat), RepAll R M H vs ds → RepAll R M H (vs.drop n) (ds.drop n)
  | _, _, 0, r => r
  | _, _, _ + 1, .nil => .nil
  | _, _, n + 1, .cons _ t => RepAll.drop n t
theorem RepAll.set {v : V} {d : D} (r : Rep R M H v d) : ∀ {vs : List V} {ds : List D} (i : Nat), RepAll R M H vs ds → RepAll R M H (vs.set i v) (ds.set i d)
  | _, _, _, .nil => .nil
  | _, _, 0, .cons _ t => .cons r t
  | _, _, i + 1, .cons q t => .cons q (RepAll.set r i t)
theorem RepAll.eraseIdx : ∀ {vs : List V} {ds : List D} (i : Nat), RepAll R M H vs ds → RepAll R M H (vs.eraseIdx i) (ds.eraseIdx i)
  | _, _, _, .nil => .nil
  | _, _, 0, .cons _ t => t
  | _, _, i + 1, .cons q t => .cons q (RepAll.eraseIdx i t)
theorem RepAll.reverse : ∀ {vs : List V} {ds : List D}, RepAll R M H vs ds → RepAll R M H vs.reverse ds.reverse
  | _, _, .nil => .nil
  | _, _, .cons r t => by rw [List.reverse_cons, List.reverse_cons]; exact (RepAll.reverse t).append (.cons r .nil)
theorem RepAll.one {vs : List V} {d : D} (h : RepAll R M H vs [d]) : ∃ v, vs = [v] ∧ Rep R M H v d := by
  cases h with
  | cons r t => cases t; exact ⟨_, rfl, r⟩
theorem RepAll.two {vs : List V} {d e : D} (h : RepAll R M H vs [d, e]) : ∃ v w, vs = [v, w] ∧ Rep R M H v d ∧ Rep R M H w e := by
  cases h with
  | cons r t => obtain ⟨w, rfl, q⟩ := RepAll.one t; exact ⟨_, _, rfl, r, q⟩
end

/-! ### the slots as data: some (true, d): a list or dict that this def alone holds and may change -/
abbrev Rho := List (Option (Bool × D))
/-- what a def's run is over: what is barred to it from ahead, the heap at its entry -/
structure FrD where
  M0 : Addr → Prop
  H0 : Hp
  gh : List (V × D)
def MM (F : FrD) (ρ : Rho) (σ : St) (a : Addr) : Prop := F.M0 a ∨ ∃ (i : Nat) (d : D), ρ[i]? = some (some (true, d)) ∧ σ[i]? = some (some (.ref a))
inductive OwnAt (R : RP) (M : Addr → Prop) (H : Hp) (a : Addr) : D → Prop
  | lst {xs : List V} {ds : List D} : H a = some (.lst xs) → xs.length ≤ sizeLine → RepAll R M H xs ds → OwnAt R M H a (.lst ds)
  | dct {kvs : List (Key × V)} {ks vs : List D} : H a = some (.dK kvs) → kvs.length ≤ sizeLine → RepAll R M H (kvs.map fun p => kV p.1) ks → RepAll R M H (kvs.map (·.2)) vs → OwnAt R M H a (.dct ks vs)
theorem OwnAt.keep {R : RP} {M M' : Addr → Prop} {H H' : Hp} {a : Addr} {d : D} (hm : ∀ a, M' a → M a) (k : ExtM M H H') (ka : ∀ o, H a = some o → H' a = some o) (h : OwnAt R M H a d) : OwnAt R M' H' a d := by
  cases h with
  | lst h l r => exact .lst (ka _ h) l (r.keep hm k)
  | dct h l r s => exact .dct (ka _ h) l (r.keep hm k) (s.keep hm k)
theorem OwnAt.there {R : RP} {M : Addr → Prop} {H : Hp} {a : Addr} {d : D} (h : OwnAt R M H a d) : ∃ o, H a = some o := by
  cases h with
  | lst h => exact ⟨_, h⟩
  | dct h => exact ⟨_, h⟩
/-- no longer changed: data like any other -/
theorem OwnAt.rep {R : RP} {M M' : Addr → Prop} {H : Hp} {a : Addr} {d : D} (hm : ∀ b, M' b → M b) (ha : ¬ M' a) (h : OwnAt R M H a d) : Rep R M' H (.ref a) d := by
  cases h with
  | lst h l r => exact .lst ⟨ha, h⟩ l (r.keep hm .refl)
  | dct h l r s => exact .dct ha h l (r.keep hm .refl) (s.keep hm .refl)
theorem OwnAt.bar {R : RP} {M : Addr → Prop} {H : Hp} {a p : Addr} {d : D} (hp : H p = none) (h : OwnAt R M H a d) : OwnAt R (fun b => M b ∨ b = p) H a d := by
  cases h with
  | lst h l r => exact .lst h l (r.bar hp)
  | dct h l r s => exact .dct h l (r.bar hp) (s.bar hp)

/-- the deck: how many were drawn -/
def DeckOk (R : RP) (n : Nat) (H : Hp) : Prop := R.dd ≠ R.dl ∧ ∃ (l : List Int) (b : Int),
  H R.dd = some (R.dob b n) ∧ H R.dl = some (.lst (l.map V.int)) ∧ l.length ≤ 63 ∧ b.natAbs < 2 ^ 40
/-- all but the deck goes on -/
def ExtK (R : RP) (H H' : Hp) : Prop := ∀ a o, a ≠ R.dd → a ≠ R.dl → H a = some o → H' a = some o
theorem ExtK.of_same {R : RP} {H H' : Hp} (a : Same H H') : ExtK R H H' := fun c o _ _ h => a c o h
theorem ExtK.refl {R : RP} {H : Hp} : ExtK R H H := fun _ _ _ _ h => h
theorem ExtK.trans {R : RP} {H H1 H2 : Hp} (a : ExtK R H H1) (b : ExtK R H1 H2) : ExtK R H H2 := fun c o n1 n2 h => b c o n1 n2 (a c o n1 n2 h)
theorem DeckOk.same {R : RP} {n : Nat} {H H' : Hp} (d : DeckOk R n H) (k : Same H H') : DeckOk R n H' :=
  let ⟨ne, l, b, h1, h2, z⟩ := d; ⟨ne, l, b, k _ _ h1, k _ _ h2, z⟩

structure Rl (R : RP) (F : FrD) (ρ : Rho) (n : Nat) (σ : St) (H : Hp) : Prop where
  len : ρ.length = σ.length
  pv : ∀ (i : Nat) (d : D), ρ[i]? = some (some (false, d)) → ∃ v, σ[i]? = some (some v) ∧ Rep R (MM F ρ σ) H v d
  ow : ∀ (i : Nat) (d : D), ρ[i]? = some (some (true, d)) → ∃ a, σ[i]? = some (some (.ref a)) ∧ OwnAt R (MM F ρ σ) H a d ∧ F.H0 a = none
  inj : ∀ (i j : Nat) (d e : D) (a : Addr), ρ[i]? = some (some (true, d)) → ρ[j]? = some (some (true, e)) → σ[i]? = some (some (.ref a)) → σ[j]? = some (some (.ref a)) → i = j
  ext : ExtK R F.H0 H
  m0 : ∀ a, F.M0 a → ∃ o, F.H0 a = some o
  md : F.M0 R.dd ∧ F.M0 R.dl
  dk : DeckOk R n H
  gh : ∀ p ∈ F.gh, Rep R (MM F ρ σ) H p.1 p.2

section
variable {R : RP} {F : FrD} {ρ ρ' : Rho} {n n' : Nat} {σ : St} {H H' : Hp}
theorem Rl.mdd (h : Rl R F ρ n σ H) : MM F ρ σ R.dd := .inl h.md.1
theorem Rl.mdl (h : Rl R F ρ n σ H) : MM F ρ σ R.dl := .inl h.md.2
theorem Rl.deck_at (h : Rl R F ρ n σ H) {a : Addr} (e : a = R.dd ∨ a = R.dl) : ∃ o, H a = some o := by
  obtain ⟨_, l, b, h1, h2, _⟩ := h.dk
  rcases e with rfl | rfl
  · exact ⟨_, h1⟩
  · exact ⟨_, h2⟩
/-- what is barred is there -/
theorem Rl.there (h : Rl R F ρ n σ H) {a : Addr} (m : MM F ρ σ a) : ∃ o, H a = some o := by
  rcases m with m | ⟨i, d, e1, e2⟩
  · obtain ⟨o, e⟩ := h.m0 a m
    by_cases q : a = R.dd ∨ a = R.dl
    · exact h.deck_at q
    · exact ⟨o, h.ext a o (fun z => q (.inl z)) (fun z => q (.inr z)) e⟩
  · obtain ⟨b, e3, w, _⟩ := h.ow i d e1
    rw [e3] at e2; cases e2
    exact w.there
theorem Rl.fresh (h : Rl R F ρ n σ H) {p : Addr} (e : H p = none) : ¬ MM F ρ σ p := fun m => by
  obtain ⟨o, q⟩ := h.there m
  rw [e] at q; cases q
/-- what lies at the entry but the deck is kept: so a place that is free now was free then -/
theorem Rl.free0 (h : Rl R F ρ n σ H) {p : Addr} (e : H p = none) : F.H0 p = none := by
  cases q : F.H0 p with
  | none => rfl
  | some o =>
    by_cases z : p = R.dd ∨ p = R.dl
    · obtain ⟨u, r⟩ := h.deck_at z
      rw [e] at r; cases r
    · have := h.ext p o (fun y => z (.inl y)) (fun y => z (.inr y)) q
      rw [e] at this; cases this
/-- an owned thing is not the deck's -/
theorem Rl.ow_ne (h : Rl R F ρ n σ H) {a : Addr} (e : F.H0 a = none) : a ≠ R.dd ∧ a ≠ R.dl := by
  obtain ⟨o1, e1⟩ := h.m0 _ h.md.1
  obtain ⟨o2, e2⟩ := h.m0 _ h.md.2
  exact ⟨fun z => (by rw [z, e1] at e; cases e), fun z => (by rw [z, e2] at e; cases e)⟩
/-- the heap goes on (a call; something new) -/
theorem Rl.go (h : Rl R F ρ n σ H) (k : ExtK R H H') (d : DeckOk R n' H') : Rl R F ρ n' σ H' := by
  have kM : ExtM (MM F ρ σ) H H' := fun a o nm e => k a o (fun z => nm (z ▸ h.mdd)) (fun z => nm (z ▸ h.mdl)) e
  refine ⟨h.len, fun i d e => ?_, fun i d e => ?_, h.inj, h.ext.trans k, h.m0, h.md, d, fun p hp => (h.gh p hp).keep (fun _ z => z) kM⟩
  · obtain ⟨v, e1, r⟩ := h.pv i d e
    exact ⟨v, e1, r.keep (fun _ z => z) kM⟩
  · obtain ⟨a, e1, w, z⟩ := h.ow i d e
    have ne := h.ow_ne z
    exact ⟨a, e1, w.keep (fun _ z => z) kM (fun o q => k a o ne.1 ne.2 q), z⟩
theorem Rl.same (h : Rl R F ρ n σ H) (k : Same H H') : Rl R F ρ n σ H' := h.go (.of_same k) (h.dk.same k)
theorem Rl.extM (h : Rl R F ρ n σ H) (k : ExtK R H H') : ExtM (MM F ρ σ) H H' := fun a o nm e => k a o (fun z => nm (z ▸ h.mdd)) (fun z => nm (z ▸ h.mdl)) e

theorem set_get {α : Type} {l : List α} {i j : Nat} {x y : α} (h : (l.set i x)[j]? = some y) : (i = j ∧ x = y) ∨ (i ≠ j ∧ l[j]? = some y) := by
  by_cases e : i = j
  · subst e
    by_cases q : i < l.length
    · rw [List.getElem?_set_self q] at h
      exact .inl ⟨rfl, Option.some.inj h⟩
    · rw [List.getElem?_eq_none (by simpa using q)] at h; cases h
  · rw [List.getElem?_set_ne e] at h
    exact .inr ⟨e, h⟩
/-- the slot's thing is changed -/
theorem Rl.mut (h : Rl R F ρ n σ H) {i : Nat} {d d' : D} {a : Addr} {o : HO} (e : ρ[i]? = some (some (true, d))) (es : σ[i]? = some (some (.ref a))) (w : OwnAt R (MM F ρ σ) (upd H a o) a d') :
    Rl R F (ρ.set i (some (true, d'))) n σ (upd H a o) ∧ (∀ b, MM F (ρ.set i (some (true, d'))) σ b ↔ MM F ρ σ b) ∧ ExtM (MM F ρ σ) H (upd H a o) := by
  have hi : i < ρ.length := (List.getElem?_eq_some_iff.mp e).1
  have eM : ∀ b, MM F (ρ.set i (some (true, d'))) σ b ↔ MM F ρ σ b := fun b => by
    constructor
    · rintro (m | ⟨j, x, e1, e2⟩)
      · exact .inl m
      · rcases set_get e1 with ⟨rfl, _⟩ | ⟨_, e1⟩
        · exact .inr ⟨_, d, e, e2⟩
        · exact .inr ⟨j, x, e1, e2⟩
    · rintro (m | ⟨j, x, e1, e2⟩)
      · exact .inl m
      · by_cases q : i = j
        · subst q
          exact .inr ⟨i, d', List.getElem?_set_self hi, e2⟩
        · exact .inr ⟨j, x, by rw [List.getElem?_set_ne q]; exact e1, e2⟩
  have ma : MM F ρ σ a := .inr ⟨i, d, e, es⟩
  have kM : ExtM (MM F ρ σ) H (upd H a o) := fun b u nm q => by rw [upd_ne (fun z : b = a => nm (by rw [z]; exact ma))]; exact q
  obtain ⟨a', es', w', z0⟩ := h.ow i d e
  rw [es] at es'; cases es'
  have ne := h.ow_ne z0
  refine ⟨⟨by simpa using h.len, fun j x e1 => ?_, fun j x e1 => ?_, fun j k x y b e1 e2 e3 e4 => ?_, fun b u n1 n2 q => ?_, h.m0, h.md, ?_, fun p hp => (h.gh p hp).keep (fun b z => (eM b).mp z) kM⟩, eM, kM⟩
  · rcases set_get e1 with ⟨_, q⟩ | ⟨_, e1⟩
    · cases q
    · obtain ⟨v, e2, r⟩ := h.pv j x e1
      exact ⟨v, e2, r.keep (fun b z => (eM b).mp z) kM⟩
  · rcases set_get e1 with ⟨rfl, q⟩ | ⟨q, e1⟩
    · cases q
      exact ⟨a, es, w.keep (fun b z => (eM b).mp z) .refl (fun _ z => z), z0⟩
    · obtain ⟨b, e2, v, z⟩ := h.ow j x e1
      refine ⟨b, e2, v.keep (fun b z => (eM b).mp z) kM fun u r => ?_, z⟩
      rw [upd_ne (fun y : b = a => q (h.inj i j d x a e e1 es (by rw [← y]; exact e2)))]; exact r
  · have g : ∀ {j x}, (ρ.set i (some (true, d')))[j]? = some (some (true, x)) → ∃ x, ρ[j]? = some (some (true, x)) := fun {j x} e1 => by
      rcases set_get e1 with ⟨rfl, _⟩ | ⟨_, e1⟩
      · exact ⟨d, e⟩
      · exact ⟨x, e1⟩
    obtain ⟨x', e1'⟩ := g e1
    obtain ⟨y', e2'⟩ := g e2
    exact h.inj j k x' y' b e1' e2' e3 e4
  · have q' := h.ext b u n1 n2 q
    rw [upd_ne fun z => by subst z; rw [z0] at q; cases q]; exact q'
  · obtain ⟨nd, l, bb, d1, d2, z⟩ := h.dk
    exact ⟨nd, l, bb, by rw [upd_ne ne.1.symm]; exact d1, by rw [upd_ne ne.2.symm]; exact d2, z⟩
/-- barred less -/
theorem MM.sub_set {i : Nat} {x : Option (Bool × D)} (hx : ∀ d, x ≠ some (true, d)) {b : Addr} (m : MM F (ρ.set i x) σ b) : MM F ρ σ b := by
  rcases m with m | ⟨j, y, e1, e2⟩
  · exact .inl m
  · rcases set_get e1 with ⟨_, q⟩ | ⟨_, e1⟩
    · exact absurd q (hx y)
    · exact .inr ⟨j, y, e1, e2⟩
/-- the slot's thing is not changed any more -/
theorem Rl.freeze (h : Rl R F ρ n σ H) {i : Nat} {d : D} (e : ρ[i]? = some (some (true, d))) : Rl R F (ρ.set i (some (false, d))) n σ H := by
  have sub : ∀ b, MM F (ρ.set i (some (false, d))) σ b → MM F ρ σ b := fun b => MM.sub_set (fun _ q => by cases q)
  obtain ⟨a, es, w, z0⟩ := h.ow i d e
  have nm : ¬ MM F (ρ.set i (some (false, d))) σ a := by
    rintro (m | ⟨j, y, e1, e2⟩)
    · obtain ⟨o, q⟩ := h.m0 a m
      rw [z0] at q; cases q
    · rcases set_get e1 with ⟨_, q⟩ | ⟨q, e1⟩
      · cases q
      · exact q (h.inj i j d y a e e1 es e2)
  refine ⟨by simpa using h.len, fun j x e1 => ?_, fun j x e1 => ?_, fun j k x y b e1 e2 e3 e4 => ?_, h.ext, h.m0, h.md, h.dk, fun p hp => (h.gh p hp).keep sub .refl⟩
  · rcases set_get e1 with ⟨rfl, q⟩ | ⟨_, e1⟩
    · cases q
      exact ⟨_, es, w.rep sub nm⟩
    · obtain ⟨v, e2, r⟩ := h.pv j x e1
      exact ⟨v, e2, r.keep sub .refl⟩
  · rcases set_get e1 with ⟨_, q⟩ | ⟨_, e1⟩
    · cases q
    · obtain ⟨b, e2, v, z⟩ := h.ow j x e1
      exact ⟨b, e2, v.keep sub .refl (fun _ q => q), z⟩
  · rcases set_get e1 with ⟨_, q⟩ | ⟨_, e1⟩
    · cases q
    · rcases set_get e2 with ⟨_, q⟩ | ⟨_, e2⟩
      · cases q
      · exact h.inj j k x y b e1 e2 e3 e4
/-- a slot is stored -/
theorem Rl.store (h : Rl R F ρ n σ H) {i : Nat} {d : D} {v : V} (r : Rep R (MM F ρ σ) H v d) : Rl R F (ρ.set i (some (false, d))) n (σ.set i (some v)) H := by
  have sub : ∀ b, MM F (ρ.set i (some (false, d))) (σ.set i (some v)) b → MM F ρ σ b := by
    rintro b (m | ⟨j, y, e1, e2⟩)
    · exact .inl m
    · rcases set_get e1 with ⟨_, q⟩ | ⟨q, e1⟩
      · cases q
      · rw [List.getElem?_set_ne q] at e2
        exact .inr ⟨j, y, e1, e2⟩
  refine ⟨by simpa using h.len, fun j x e1 => ?_, fun j x e1 => ?_, fun j k x y b e1 e2 e3 e4 => ?_, h.ext, h.m0, h.md, h.dk, fun p hp => (h.gh p hp).keep sub .refl⟩
  · rcases set_get e1 with ⟨rfl, q⟩ | ⟨q, e1'⟩
    · cases q
      have hi : i < σ.length := by
        have := (List.getElem?_eq_some_iff.mp e1).1
        rw [List.length_set, h.len] at this
        exact this
      exact ⟨v, List.getElem?_set_self hi, r.keep sub .refl⟩
    · obtain ⟨u, e2, r⟩ := h.pv j x e1'
      exact ⟨u, by rw [List.getElem?_set_ne q]; exact e2, r.keep sub .refl⟩
  · rcases set_get e1 with ⟨_, q⟩ | ⟨q, e1⟩
    · cases q
    · obtain ⟨b, e2, w, z⟩ := h.ow j x e1
      exact ⟨b, by rw [List.getElem?_set_ne q]; exact e2, w.keep sub .refl (fun _ q => q), z⟩
  · rcases set_get e1 with ⟨_, q⟩ | ⟨q1, e1⟩
    · cases q
    · rcases set_get e2 with ⟨_, q⟩ | ⟨q2, e2⟩
      · cases q
      · rw [List.getElem?_set_ne q1] at e3
        rw [List.getElem?_set_ne q2] at e4
        exact h.inj j k x y b e1 e2 e3 e4
/-- a slot is forgotten -/
theorem Rl.forget (h : Rl R F ρ n σ H) {i : Nat} (no : ∀ d, ρ[i]? ≠ some (some (true, d))) : Rl R F (ρ.set i none) n (σ.set i none) H ∧ ∀ b, MM F (ρ.set i none) (σ.set i none) b ↔ MM F ρ σ b := by
  have eM : ∀ b, MM F (ρ.set i none) (σ.set i none) b ↔ MM F ρ σ b := fun b => by
    constructor
    · rintro (m | ⟨j, y, e1, e2⟩)
      · exact .inl m
      · rcases set_get e1 with ⟨_, q⟩ | ⟨q, e1⟩
        · cases q
        · rw [List.getElem?_set_ne q] at e2
          exact .inr ⟨j, y, e1, e2⟩
    · rintro (m | ⟨j, y, e1, e2⟩)
      · exact .inl m
      · have q : i ≠ j := fun z => by subst z; exact no y e1
        exact .inr ⟨j, y, by rw [List.getElem?_set_ne q]; exact e1, by rw [List.getElem?_set_ne q]; exact e2⟩
  refine ⟨⟨by simpa using h.len, fun j x e1 => ?_, fun j x e1 => ?_, fun j k x y b e1 e2 e3 e4 => ?_, h.ext, h.m0, h.md, h.dk, fun p hp => (h.gh p hp).keep (fun b => (eM b).mp) .refl⟩, eM⟩
  · rcases set_get e1 with ⟨_, q⟩ | ⟨q, e1⟩
    · cases q
    · obtain ⟨v, e2, r⟩ := h.pv j x e1
      exact ⟨v, by rw [List.getElem?_set_ne q]; exact e2, r.keep (fun b => (eM b).mp) .refl⟩
  · rcases set_get e1 with ⟨_, q⟩ | ⟨q, e1⟩
    · cases q
    · obtain ⟨b, e2, w, z⟩ := h.ow j x e1
      exact ⟨b, by rw [List.getElem?_set_ne q]; exact e2, w.keep (fun b => (eM b).mp) .refl (fun _ q => q), z⟩
  · rcases set_get e1 with ⟨_, q⟩ | ⟨q1, e1⟩
    · cases q
    · rcases set_get e2 with ⟨_, q⟩ | ⟨q2, e2⟩
      · cases q
      · rw [List.getElem?_set_ne q1] at e3
        rw [List.getElem?_set_ne q2] at e4
        exact h.inj j k x y b e1 e2 e3 e4
/-- one more value is held -/
def FrD.hold (F : FrD) (v : V) (d : D) : FrD := { F with gh := (v, d) :: F.gh }
theorem Rl.hold (h : Rl R F ρ n σ H) {v : V} {d : D} (r : Rep R (MM F ρ σ) H v d) : Rl R (F.hold v d) ρ n σ H :=
  ⟨h.len, h.pv, h.ow, h.inj, h.ext, h.m0, h.md, h.dk, fun p hp => (List.mem_cons.mp hp).elim (fun e => e ▸ r) (h.gh p)⟩
theorem Rl.drop {v : V} {d : D} (h : Rl R (F.hold v d) ρ n σ H) : Rl R F ρ n σ H :=
  ⟨h.len, h.pv, h.ow, h.inj, h.ext, h.m0, h.md, h.dk, fun p hp => h.gh p (List.mem_cons_of_mem _ hp)⟩
theorem Rl.held {v : V} {d : D} (h : Rl R (F.hold v d) ρ n σ H) : Rep R (MM F ρ σ) H v d := h.gh _ List.mem_cons_self
end
end DL

set_option Elab.async false
set_option linter.all false
set_option maxRecDepth 100000
set_option maxHeartbeats 4000000
namespace DL
open PySem L2
/-- one more thing at p is barred, and stays as it is -/
def FrD.add (F : FrD) (p : Addr) (o : HO) : FrD := ⟨fun a => F.M0 a ∨ a = p, upd F.H0 p o, F.gh⟩
section
variable {R : RP} {F : FrD} {ρ ρ' : Rho} {n n' : Nat} {σ : St} {H H' : Hp} {p : Addr} {o o' : HO}
theorem MM.add {b : Addr} : MM (F.add p o) ρ σ b ↔ MM F ρ σ b ∨ b = p := by
  constructor
  · rintro ((m | m) | m)
    · exact .inl (.inl m)
    · exact .inr m
    · exact .inl (.inr m)
  · rintro ((m | m) | m)
    · exact .inl (.inl m)
    · exact .inr m
    · exact .inl (.inr m)
theorem Rl.add (h : Rl R F ρ n σ H) (hp : H p = none) : Rl R (F.add p o) ρ n σ (upd H p o) := by
  have f0 := h.free0 hp
  have k : ExtM (MM F ρ σ) H (upd H p o) := .alloc hp
  have sub : ∀ b, MM (F.add p o) ρ σ b → MM F ρ σ b ∨ b = p := fun b => MM.add.mp
  have k2 : ExtM (fun b => MM F ρ σ b ∨ b = p) H (upd H p o) := .alloc hp
  refine ⟨h.len, fun i d e => ?_, fun i d e => ?_, h.inj, fun a u n1 n2 q => ?_, fun a m => ?_, ⟨.inl h.md.1, .inl h.md.2⟩, h.dk.same (DL.Same.alloc hp), fun q hq => ((h.gh q hq).bar hp).keep sub k2⟩
  · obtain ⟨v, e1, r⟩ := h.pv i d e
    exact ⟨v, e1, (r.bar hp).keep sub k2⟩
  · obtain ⟨a, e1, w, z⟩ := h.ow i d e
    have ne : a ≠ p := fun y => by
      obtain ⟨u, q⟩ := w.there
      rw [y, hp] at q; cases q
    exact ⟨a, e1, (w.bar hp).keep sub k2 (fun u q => by rw [upd_ne ne]; exact q), by show upd F.H0 p o a = none; rw [upd_ne ne]; exact z⟩
  · have q' : upd F.H0 p o a = some u := q
    by_cases e : a = p
    · subst e
      rw [upd_same] at q' ⊢; exact q'
    · rw [upd_ne e] at q' ⊢
      exact h.ext a u n1 n2 q'
  · by_cases e : a = p
    · subst e
      exact ⟨o, upd_same⟩
    · obtain ⟨u, q⟩ := h.m0 a (m.elim id fun z => absurd z e)
      exact ⟨u, by show upd F.H0 p o a = some u; rw [upd_ne e]; exact q⟩
theorem Rl.addH (h : Rl R (F.add p o) ρ n σ H) (f0 : F.H0 p = none) (h1 : p ≠ R.dd) (h2 : p ≠ R.dl) : H p = some o := h.ext p o h1 h2 upd_same
theorem Rl.md_of (h : Rl R (F.add p o) ρ n σ H) (h1 : p ≠ R.dd) (h2 : p ≠ R.dl) : F.M0 R.dd ∧ F.M0 R.dl := ⟨h.md.1.elim id fun z => absurd z.symm h1, h.md.2.elim id fun z => absurd z.symm h2⟩
/-- the barred thing is changed -/
theorem Rl.readd (h : Rl R (F.add p o) ρ n σ H) (h1 : p ≠ R.dd) (h2 : p ≠ R.dl) : Rl R (F.add p o') ρ n σ (upd H p o') := by
  have sub : ∀ b, MM (F.add p o') ρ σ b → MM (F.add p o) ρ σ b := fun b m => MM.add.mpr (MM.add.mp m)
  have k : ExtM (MM (F.add p o) ρ σ) H (upd H p o') := fun a u nm q => by
    rw [upd_ne fun z => nm (MM.add.mpr (.inr z))]; exact q
  refine ⟨h.len, fun i d e => ?_, fun i d e => ?_, h.inj, fun a u n1 n2 q => ?_, fun a m => ?_, h.md, ?_, fun q hq => (h.gh q hq).keep sub k⟩
  · obtain ⟨v, e1, r⟩ := h.pv i d e
    exact ⟨v, e1, r.keep sub k⟩
  · obtain ⟨a, e1, w, z⟩ := h.ow i d e
    have ne : a ≠ p := fun y => by
      have z' : upd F.H0 p o a = none := z
      rw [y, upd_same] at z'; cases z'
    refine ⟨a, e1, w.keep sub k (fun u q => by rw [upd_ne ne]; exact q), ?_⟩
    have z' : upd F.H0 p o a = none := z
    show upd F.H0 p o' a = none
    rw [upd_ne ne] at z' ⊢; exact z'
  · have q' : upd F.H0 p o' a = some u := q
    by_cases e : a = p
    · subst e
      rw [upd_same] at q' ⊢; exact q'
    · rw [upd_ne e] at q' ⊢
      exact h.ext a u n1 n2 (by show upd F.H0 p o a = some u; rw [upd_ne e]; exact q')
  · by_cases e : a = p
    · subst e
      exact ⟨o', upd_same⟩
    · obtain ⟨u, q⟩ := h.m0 a m
      have q' : upd F.H0 p o a = some u := q
      rw [upd_ne e] at q'
      exact ⟨u, by show upd F.H0 p o' a = some u; rw [upd_ne e]; exact q'⟩
  · obtain ⟨nd, l, bb, d1, d2, z⟩ := h.dk
    exact ⟨nd, l, bb, by rw [upd_ne h1.symm]; exact d1, by rw [upd_ne h2.symm]; exact d2, z⟩
/-- not barred any more -/
theorem Rl.unadd (h : Rl R (F.add p o) ρ n σ H) (f0 : F.H0 p = none) (m0 : ∀ a, F.M0 a → ∃ u, F.H0 a = some u) (h1 : p ≠ R.dd) (h2 : p ≠ R.dl) : Rl R F ρ n σ H := by
  have sub : ∀ b, MM F ρ σ b → MM (F.add p o) ρ σ b := fun b m => MM.add.mpr (.inl m)
  refine ⟨h.len, fun i d e => ?_, fun i d e => ?_, h.inj, fun a u n1 n2 q => ?_, m0, h.md_of h1 h2, h.dk, fun q hq => (h.gh q hq).keep sub .refl⟩
  · obtain ⟨v, e1, r⟩ := h.pv i d e
    exact ⟨v, e1, r.keep sub .refl⟩
  · obtain ⟨a, e1, w, z⟩ := h.ow i d e
    refine ⟨a, e1, w.keep sub .refl (fun _ q => q), ?_⟩
    have z' : upd F.H0 p o a = none := z
    by_cases e : a = p
    · rw [e, upd_same] at z'; cases z'
    · rw [upd_ne e] at z'; exact z'
  · refine h.ext a u n1 n2 ?_
    show upd F.H0 p o a = some u
    rw [upd_ne fun e => by rw [e, f0] at q; cases q]; exact q
/-- the barred thing comes into a slot -/
theorem Rl.storeOwn (h : Rl R (F.add p o) ρ n σ H) (f0 : F.H0 p = none) (m0 : ∀ a, F.M0 a → ∃ u, F.H0 a = some u) (h1 : p ≠ R.dd) (h2 : p ≠ R.dl) {i : Nat} {d : D} (hi : i < ρ.length) (w : OwnAt R (MM (F.add p o) ρ σ) H p d) :
    Rl R F (ρ.set i (some (true, d))) n (σ.set i (some (.ref p))) H := by
  have sub : ∀ b, MM F (ρ.set i (some (true, d))) (σ.set i (some (.ref p))) b → MM (F.add p o) ρ σ b := by
    rintro b (m | ⟨j, y, e1, e2⟩)
    · exact .inl (.inl m)
    · rcases set_get e1 with ⟨rfl, q⟩ | ⟨q, e1⟩
      · rw [List.getElem?_set_self (by rw [← h.len]; exact hi)] at e2
        cases e2
        exact .inl (.inr rfl)
      · rw [List.getElem?_set_ne q] at e2
        exact .inr ⟨j, y, e1, e2⟩
  have pne : ∀ {j : Nat} {x : D} {a : Addr}, ρ[j]? = some (some (true, x)) → σ[j]? = some (some (.ref a)) → a ≠ p := fun {j x a} e1 e2 z => by
    obtain ⟨b, e3, _, z0⟩ := h.ow j x e1
    rw [e3] at e2; cases e2
    have z' : upd F.H0 p o a = none := z0
    rw [z, upd_same] at z'; cases z'
  refine ⟨by simpa using h.len, fun j x e1 => ?_, fun j x e1 => ?_, fun j k x y b e1 e2 e3 e4 => ?_, fun a u n1 n2 q => ?_, m0, h.md_of h1 h2, h.dk, fun q hq => (h.gh q hq).keep sub .refl⟩
  · rcases set_get e1 with ⟨_, q⟩ | ⟨q, e1⟩
    · cases q
    · obtain ⟨v, e2, r⟩ := h.pv j x e1
      exact ⟨v, by rw [List.getElem?_set_ne q]; exact e2, r.keep sub .refl⟩
  · rcases set_get e1 with ⟨rfl, q⟩ | ⟨q, e1⟩
    · cases q
      exact ⟨p, List.getElem?_set_self (by rw [← h.len]; exact hi), w.keep sub .refl (fun _ q => q), f0⟩
    · obtain ⟨b, e2, v, z⟩ := h.ow j x e1
      refine ⟨b, by rw [List.getElem?_set_ne q]; exact e2, v.keep sub .refl (fun _ q => q), ?_⟩
      have z' : upd F.H0 p o b = none := z
      rw [upd_ne (pne e1 e2)] at z'; exact z'
  · have sl : ∀ {j : Nat} {x : D} {b : Addr}, (ρ.set i (some (true, d)))[j]? = some (some (true, x)) → (σ.set i (some (V.ref p)))[j]? = some (some (.ref b)) → (j = i ∧ b = p) ∨ (j ≠ i ∧ ρ[j]? = some (some (true, x)) ∧ σ[j]? = some (some (.ref b))) := fun {j x b} e1 e2 => by
      rcases set_get e1 with ⟨rfl, _⟩ | ⟨q, e1⟩
      · rw [List.getElem?_set_self (by rw [← h.len]; exact hi)] at e2
        cases e2
        exact .inl ⟨rfl, rfl⟩
      · rw [List.getElem?_set_ne q] at e2
        exact .inr ⟨fun z => q z.symm, e1, e2⟩
    rcases sl e1 e3 with ⟨j1, b1⟩ | ⟨j1, f1, g1⟩
    · rcases sl e2 e4 with ⟨j2, b2⟩ | ⟨j2, f2, g2⟩
      · rw [j1, j2]
      · exact absurd b1 (pne f2 g2)
    · rcases sl e2 e4 with ⟨j2, b2⟩ | ⟨j2, f2, g2⟩
      · exact absurd b2 (pne f1 g1)
      · exact h.inj j k x y b f1 f2 g1 g2
  · refine h.ext a u n1 n2 ?_
    show upd F.H0 p o a = some u
    rw [upd_ne fun e => by rw [e, f0] at q; cases q]; exact q

/-- what may be read: data, or a thing that the def holds -/
def Rdb (R : RP) (M : Addr → Prop) (H : Hp) (v : V) (d : D) : Prop := Rep R M H v d ∨ ∃ a, v = .ref a ∧ OwnAt R M H a d
theorem Rdb.of {M : Addr → Prop} {v : V} {d : D} (h : Rep R M H v d) : Rdb R M H v d := .inl h
theorem Rdb.lst {M : Addr → Prop} {v : V} {ds : List D} (h : Rdb R M H v (.lst ds)) : ∃ a xs, v = .ref a ∧ H a = some (.lst xs) ∧ xs.length ≤ sizeLine ∧ RepAll R M H xs ds := by
  rcases h with h | ⟨a, rfl, h⟩
  · cases h with
    | lst h l r => exact ⟨_, _, rfl, h.2, l, r⟩
  · cases h with
    | lst h l r => exact ⟨_, _, rfl, h, l, r⟩
theorem Rdb.tup {M : Addr → Prop} {v : V} {ds : List D} (h : Rdb R M H v (.tup ds)) : ∃ a xs, v = .ref a ∧ TpM R.K M H a xs ∧ xs.length ≤ sizeLine ∧ RepAll R M H xs ds := by
  rcases h with h | ⟨a, rfl, h⟩
  · cases h with
    | tup h l r => exact ⟨_, _, rfl, h, l, r⟩
  · cases h
theorem Rdb.int {M : Addr → Prop} {v : V} {i : Int} (h : Rdb R M H v (.int i)) : v = .int i := by
  rcases h with h | ⟨a, rfl, h⟩
  · cases h; rfl
  · cases h
theorem Rdb.str {M : Addr → Prop} {v : V} {x : Str} (h : Rdb R M H v (.str x)) : v = .str x ∧ SOk x := by
  rcases h with h | ⟨a, rfl, h⟩
  · cases h with
    | str _ l => exact ⟨rfl, l⟩
  · cases h
theorem Rdb.bl {M : Addr → Prop} {v : V} {b : Bool} (h : Rdb R M H v (.bl b)) : v = .bl b := by
  rcases h with h | ⟨a, rfl, h⟩
  · cases h; rfl
  · cases h
theorem Rdb.non {M : Addr → Prop} {v : V} (h : Rdb R M H v .non) : v = .non := by
  rcases h with h | ⟨a, rfl, h⟩
  · cases h; rfl
  · cases h
end
end DL

set_option Elab.async false
set_option linter.all false
set_option maxRecDepth 100000
set_option maxHeartbeats 4000000
namespace DL
open PySem L2

/-! ### the language -/
inductive G where
  | nm (i : Nat)
  | tp (gs : List G)
/-- what a number of a def stands for -/
inductive FK where
  | fn | mth (c : Nat) | new (c : Nat) | prp (c : Nat) | cm (c : Nat) | xi (c : Nat)
  deriving DecidableEq
mutual
/-- what a handler puts into a name: values, a slot, a slot and a number, the exception's field, displays -/
inductive HE where
  | non | bl (b : Bool) | int (i : Int) | str (x : Str) | var (i : Nat) | inc (i : Nat) (k : Int) | fld (j : Nat) | tup (es : HEs) | lst (es : HEs)
inductive HEs where
  | nil | cons (e : HE) (r : HEs)
end
mutual
inductive E where
  | int (i : Int) | bl (b : Bool) | non | str (x : Str)
  | var (i : Nat) | glb (g : Nat)
  | bin (op : Operator) (a b : E) | neg (a : E)
  | not (a : E) | and (a b : E) | or (a b : E)
  | cmp (op : CmpOp) (a b : E) | cmp2 (o1 o2 : CmpOp) (a b c : E)
  | ite (c a b : E)
  | tup (es : Es) | lst (es : Es) | dct0 | dct1 (k v : E)
  | ix (a b : E) | slL (a lo : E) | slU (a hi : E) | slLU (a lo hi : E) | slR (a : E)
  | isi (a : E) (T : String)
  | call (f : Nat) (es : Es) | callk (j : Nat) (es ks : Es)
  | blt (id : String) (es : Es)
  | mth (id : String) (o : E) (es : Es)
  | mut (id : String) (i : Nat) (es : Es)
  | lc (elt : E) (tg : G) (it : I) (cond : E) (own : List (Str × Nat))
  | fld (a : E) (c j : Nat) | appn (c f : Nat) (es : Es) | apps (c f : Nat) (a b : E) | appc (c f : Nat) (a b : E) | tupR (a : E) | appm (c f : Nat) (o : E) (es : Es) | appk (c j : Nat) (o : E) (ks : Es)
  | lc2 (elt : E) (tg : G) (it : I) (cond : E) (tg1 : G) (it1 : I) (cond1 : E) (own : List (Str × Nat)) (ow1 : List Nat) | appq (ne : Bool) (c f : Nat) (a b : E) | isc (c : Nat) (a : E)
  | propm (c f : Nat) (a : E) | cm (c f : Nat) (es : Es) | cmk (c j : Nat) (ks : Es) | appv (i c f : Nat) (es : Es) | appb (op : Operator) (c f : Nat) (a b : E) | fstr (es : Es) | ownd (e : E) | lenm (c f : Nat) (a : E) | appe (c f : Nat) (a b : E) | newk (c j : Nat) (ks : Es) | lstR (a : E)
inductive Es where
  | nil | cons (e : E) (r : Es) | star (e : E) (r : Es)
inductive I where
  | ov (e : E) | rng (a : E) | rng2 (a b : E) | zip (a b : E) | enm (a : E)
end
mutual
inductive S where
  | asg (g : G) (e : E) | asgO (i : Nat) (e : E) | par (js : List Nat) (es : Es) | parO (i j : Nat) (a b : E)
  | aug (i : Nat) (op : Operator) (e : E)
  | setix (i : Nat) (k e : E)
  | exp (e : E) | ret (e : E) | retN
  | ite (c : E) (a b : Ss)
  | for (g : G) (it : I) (b : Ss)
  | whl (c : E) (b : Ss)
  | brk | cnt | pass | rse
  | raise (c f : Nat) (es : Es)
  | try1 (b : Ss) (c : Nat) (a : Option Nat) (i : Nat) (h : HE)
inductive Ss where
  | nil | cons (s : S) (r : Ss)
end

/-! ### data by operations -/
def D.truth : D → Option Bool
  | .non => some false | .bl b => some b | .int i => some (i != 0) | .str x => some ((x.length : Int) != 0)
  | .lst xs => some (!xs.isEmpty) | .tup xs => some (!xs.isEmpty) | .dct ks _ => some (!ks.isEmpty) | _ => none
/-- no other thing is named by it -/
def D.flat : D → Bool
  | .non | .bl _ | .int _ | .str _ => true
  | _ => false
mutual
def D.py : D → PyData
  | .non => .none | .bl b => .bool b | .int i => .int i | .str x => .str x
  | .lst xs => .list (D.pys xs) | .tup xs => .tuple (D.pys xs)
  | .dct ks vs => .dict ((D.pys ks).zip (D.pys vs))
  | .obj _ _ => .none | .atom _ => .none
def D.pys : List D → List PyData
  | [] => []
  | d :: ds => D.py d :: D.pys ds
end
mutual
/-- no dict, no object within -/
def D.plain : D → Bool
  | .non | .bl _ | .int _ | .str _ => true
  | .lst xs | .tup xs => D.plains xs
  | _ => false
def D.plains : List D → Bool
  | [] => true
  | d :: ds => D.plain d && D.plains ds
end
mutual
/-- no object within: repr shows it -/
def D.shows : D → Bool
  | .non | .bl _ | .int _ | .str _ => true
  | .lst xs | .tup xs => D.showss xs
  | .dct ks vs => D.showss ks && D.showss vs
  | _ => false
def D.showss : List D → Bool
  | [] => true
  | d :: ds => D.shows d && D.showss ds
end
def D.shaped (d : D) : Bool := d.plain && decide (d.py.depth ≤ 60)
def D.eqv (d e : D) : Bool := PyData.eqv d.py e.py
/-- the signs of a text, one by one -/
def signs (x : Str) : List D := x.cps.toList.map fun c => .str ⟨#[c]⟩
def IMulOk (i j : Int) : Prop := i.natAbs.log2 + j.natAbs.log2 < 1000000
def dBin : Operator → D → D → (D → Prop) → Prop
  | .Add, .int i, .int j, k => k (.int (i + j))
  | .Add, .str x, .str y, k => x.length + y.length ≤ sizeLine ∧ k (.str (x ++ y))
  | .Add, .lst xs, .lst ys, k => xs.length + ys.length ≤ sizeLine ∧ k (.lst (xs ++ ys))
  | .Add, .tup xs, .tup ys, k => xs.length + ys.length ≤ sizeLine ∧ k (.tup (xs ++ ys))
  | .Sub, .int i, .int j, k => k (.int (i - j))
  | .Mult, .int i, .int j, k => IMulOk i j ∧ k (.int (i * j))
  | .Mult, .lst xs, .int j, k => (-(2 ^ 63) ≤ j ∧ j < 2 ^ 63) ∧ xs.length * j.toNat ≤ sizeLine ∧ k (.lst (List.replicate j.toNat xs).flatten)
  | .Mult, .str x, .int j, k => PySem.MulOk x j ∧ (Txt.mul x j).length ≤ sizeLine ∧ k (.str (Txt.mul x j))
  | .FloorDiv, .int i, .int j, k => (0 < j ∧ j < 1073741824) ∧ k (.int (i / j))
  | .Mod, .int i, .int j, k => 0 < j ∧ k (.int (i % j))
  | .Pow, .int i, .int j, k => (0 ≤ j ∧ j ≤ 1000000 ∧ i.natAbs < 2 ^ 64) ∧ k (.int (i ^ j.toNat))
  | _, _, _, _ => False
/-- in place -/
def dAug : Operator → D → D → (D → Prop) → Prop
  | .Add, .int i, .int j, k => k (.int (i + j))
  | .Sub, .int i, .int j, k => k (.int (i - j))
  | .Add, .str x, .str y, k => x.length + y.length ≤ sizeLine ∧ k (.str (x ++ y))
  | _, _, _, _ => False
def ltS (x y : Str) : Bool := decide (x.cps.toList < y.cps.toList)
def inS (x y : Str) : Bool := !(Builtin.Str.occurrences y x 0 y.length 1).isEmpty
def isNonD : D → Bool
  | .non => true
  | _ => false
def dCmp : CmpOp → D → D → (Bool → Prop) → Prop
  | .Eq, x, y, k => (x.shaped = true ∧ y.shaped = true) ∧ k (x.eqv y)
  | .NotEq, x, y, k => (x.shaped = true ∧ y.shaped = true) ∧ k (!x.eqv y)
  | .Lt, .int i, .int j, k => k (decide (i < j))
  | .LtE, .int i, .int j, k => k (decide (i ≤ j))
  | .Gt, .int i, .int j, k => k (decide (j < i))
  | .GtE, .int i, .int j, k => k (decide (j ≤ i))
  | .Lt, .str x, .str y, k => k (ltS x y)
  | .LtE, .str x, .str y, k => k (!ltS y x)
  | .Gt, .str x, .str y, k => k (ltS y x)
  | .GtE, .str x, .str y, k => k (!ltS x y)
  | .Is, x, .non, k => k (isNonD x)
  | .IsNot, x, .non, k => k (!isNonD x)
  | .In, .str x, .str y, k => k (inS x y)
  | .NotIn, .str x, .str y, k => k (!inS x y)
  | .In, x, .lst ys, k => (x.shaped = true ∧ (D.lst ys).shaped = true) ∧ k (ys.any fun z => z.eqv x)
  | .NotIn, x, .lst ys, k => (x.shaped = true ∧ (D.lst ys).shaped = true) ∧ k (!ys.any fun z => z.eqv x)
  | .In, x, .tup ys, k => (x.flat = true ∧ (ys.all D.flat) = true) ∧ k (ys.any fun z => z.eqv x)
  | .NotIn, x, .tup ys, k => (x.flat = true ∧ (ys.all D.flat) = true) ∧ k (!ys.any fun z => z.eqv x)
  | _, _, _, _ => False
def dIsi : D → String → Option Bool
  | .non, _ => some false
  | .bl _, T => some (T == "bool" || T == "int")
  | .int _, T => some (T == "int")
  | .str _, T => some (T == "str")
  | .lst _, T => some (T == "list")
  | .tup _, T => some (T == "tuple")
  | .dct _ _, T => some (T == "dict")
  | _, _ => none
/-- an item's place -/
def dIx : D → D → (D → Prop) → Prop
  | .lst xs, .int i, k => ∃ d, atI xs i = some d ∧ k d
  | .tup xs, .int i, k => ∃ d, atI xs i = some d ∧ k d
  | .str x, .int i, k => ∃ c, atI x.cps.toList i = some c ∧ k (.str ⟨#[c]⟩)
  | _, _, _ => False
def cutD {α : Type} (xs : List α) (lo hi : Option Int) : List α := (xs.drop (HT.sIx xs.length 0 lo)).take (HT.sIx xs.length xs.length hi - HT.sIx xs.length 0 lo)
def dSl : D → Option Int → Option Int → (D → Prop) → Prop
  | .lst xs, lo, hi, k => k (.lst (cutD xs lo hi))
  | .tup xs, lo, hi, k => k (.tup (cutD xs lo hi))
  | .str x, lo, hi, k => k (.str (cutS x lo hi))
  | _, _, _, _ => False
def asInt : D → Option Int
  | .int i => some i
  | _ => none
def boolsD : List D → Option (List Bool)
  | [] => some []
  | .bl b :: r => (boolsD r).map (b :: ·)
  | _ :: _ => none
def intsD : List D → Option (List Int)
  | [] => some []
  | .int b :: r => (intsD r).map (b :: ·)
  | _ :: _ => none
def strsD : List D → Option (List Str)
  | [] => some []
  | .str b :: r => (strsD r).map (b :: ·)
  | _ :: _ => none
def dBlt : String → List D → (D → Prop) → Prop
  | "len", [.str x], k => k (.int x.length)
  | "len", [.lst xs], k => k (.int xs.length)
  | "len", [.tup xs], k => k (.int xs.length)
  | "all", [.lst xs], k => ∃ bs, boolsD xs = some bs ∧ k (.bl (bs.all id))
  | "any", [.lst xs], k => ∃ bs, boolsD xs = some bs ∧ k (.bl (bs.any id))
  | "repr", [d], k => (d.shows = true ∧ d.py.depth ≤ 60 ∧ d.py.showable = true ∧ d.py.shown.length ≤ sizeLine) ∧ k (.str d.py.shown)
  | "int", [.int i], k => k (.int i)
  | "int", [.bl b], k => k (.int (if b then 1 else 0))
  | "list", [.lst xs], k => k (.lst xs)
  | "list", [.tup xs], k => k (.lst xs)
  | "list", [.str x], k => k (.lst (signs x))
  | "tuple", [.lst xs], k => k (.tup xs)
  | "tuple", [.tup xs], k => k (.tup xs)
  | "str", [.int i], k => i.natAbs.log2 < 1920 ∧ k (.str (toString i))
  | "int", [.str a], k => ∃ n, PySem.intText? a = some n ∧ a.length ≤ 640 ∧ k (.int n)
  | "max", [.int i, .int j], k => k (.int (if j > i then j else i))
  | "min", [.int i, .int j], k => k (.int (if j < i then j else i))
  | "sorted", [.lst xs], k => ∃ ns, intsD xs = some ns ∧ ∀ ns' : List Int, ns'.Perm ns → ns'.Pairwise (· ≤ ·) → k (.lst (ns'.map .int))
  | _, _, _ => False
def dMth : String → D → List D → (D → Prop) → Prop
  | "str.join", .str x, [.lst ys], k => ∃ zs, strsD ys = some zs ∧ (zs.map (·.length)).sum + zs.length * x.length ≤ sizeLine ∧ k (.str (Str.join x zs))
  | "str.index", .str x, [.str y], k => ∃ c, y = ⟨#[c]⟩ ∧ c ∈ x.cps.toList ∧ ∀ i : Nat, x.cps.toList[i]? = some c → k (.int (i : Int))
  | "str.split", .str x, [.str y], k => ((y.length == 0) = false ∧ x.length + 2 ≤ sizeLine) ∧ (Txt.split x y).length ≤ sizeLine ∧ (∀ z ∈ Txt.split x y, z.length ≤ sizeLine ∧ PyData.strOk z = true) ∧ k (.lst ((Txt.split x y).map D.str))
  | "list.index", .lst xs, [d], k => ∃ (j : Nat) (z : D), (d.flat = true ∧ xs.all D.flat = true) ∧ xs[j]? = some z ∧ z.eqv d = true ∧ (∀ (m : Nat) (z' : D), m < j → xs[m]? = some z' → z'.eqv d = false) ∧ k (.int (j : Int))
  | _, _, _, _ => False
/-- a method that changes its thing: the thing behind it, what it hands back -/
def dMut : String → D → List D → (D → D → Prop) → Prop
  | "list.append", .lst xs, [d], k => xs.length < sizeLine ∧ k (.lst (xs ++ [d])) .non
  | "list.extend", .lst xs, [.lst ys], k => xs.length + ys.length ≤ sizeLine ∧ k (.lst (xs ++ ys)) .non
  | "list.pop", .lst xs, [], k => ∃ d, xs[xs.length - 1]? = some d ∧ k (.lst xs.dropLast) d
  | "list.pop", .lst xs, [.int i], k => ∃ j d, (-(2 ^ 63) ≤ i ∧ i < 2 ^ 63) ∧ seqIndex? i xs.length = some j ∧ xs[j]? = some d ∧ k (.lst (xs.eraseIdx j)) d
  | _, _, _, _ => False

/-- the type, the name of a method -/
def mT (id : String) : String := if ["str.join", "str.index", "str.split"].contains id then "str" else if ["list.append", "list.extend", "list.pop", "list.index"].contains id then "list" else "?"
def mN (id : String) : Str := if id = "str.join" then "join" else if id = "list.append" then "append" else if id = "list.extend" then "extend" else if id = "list.pop" then "pop" else if id = "str.split" then "split" else if id = "str.index" then "index" else if id = "list.index" then "index" else "?"

/-! ### what is fixed outside: the defs that are called (by number): what they ask and hand on, how often they draw; the module's constants -/
/-- a call with keywords: the def, how many values are positional, the keywords' names, where each parameter's value comes from, the defaults -/
structure KS where
  f : Nat
  np : Nat
  ks : List Str
  perm : List Nat
  dfl : List D
def KS.put (k : KS) (ds : List D) : List D := k.perm.map fun i => (ds ++ k.dfl).getD i .non
structure Gm where
  phi : Nat → List D → (D → Prop) → (Nat → List D → Prop) → Prop
  fcost : Nat → Nat
  fname : Nat → Str
  arity : Nat → Nat
  gD : Nat → D
  gname : Nat → Str
  ks : Nat → KS
  fk : Nat → FK
  cfl : Nat → List Str
  ncl : Nat
  cnm : Nat → Str
  nx : Nat
  exm : Nat → Nat → Bool
  exn : Nat → Str
  exf : Nat → List Str
  pmono : ∀ (f : Nat) (ds : List D) (Q Q' : D → Prop) (X X' : Nat → List D → Prop), (∀ z, Q z → Q' z) → (∀ c l, X c l → X' c l) → phi f ds Q X → phi f ds Q' X'

/-- isinstance of a class of the program's own -/
def dIsc (c : Nat) : D → Option Bool
  | .obj e _ => if e = c then some true else none
  | .atom _ => none
  | _ => some false
def xorB : Bool → Bool → Bool
  | true, k => !k
  | false, k => k
/-- a text, an int as a text -/
def textD : D → Option Str
  | .str b => some b
  | .int i => if i.natAbs.log2 < 1920 then some (toString i) else none
  | _ => none
/-- the items of what stands behind a star -/
def starD : D → Option (List D)
  | .lst xs => some xs
  | .tup xs => some xs
  | _ => none
/-! ### readings -/
inductive Rv where
  | pr (d : D) | sl (i : Nat)
def useR (ρ : Rho) (r : Rv) (k : D → Prop) : Prop := match r with
  | .pr d => k d
  | .sl i => match ρ[i]? with
    | some (some (_, d)) => k d
    | _ => False
def escR (ρ : Rho) (r : Rv) (k : D → Rho → Prop) : Prop := match r with
  | .pr d => k d ρ
  | .sl i => match ρ[i]? with
    | some (some (true, d)) => k d (ρ.set i (some (false, d)))
    | some (some (false, d)) => k d ρ
    | _ => False
def useAll (ρ : Rho) : List Rv → (List D → Prop) → Prop
  | [], k => k []
  | r :: rs, k => useR ρ r fun d => useAll ρ rs fun ds => k (d :: ds)
/-- behind a call whose answer may hold what was handed in: nothing of it is changed any more -/
def freezeAll (ρ : Rho) : List Rv → Rho
  | [] => ρ
  | .pr _ :: rs => freezeAll ρ rs
  | .sl i :: rs => freezeAll (match ρ[i]? with
    | some (some (true, d)) => ρ.set i (some (false, d))
    | _ => ρ) rs
/-- an answer that names nothing: nothing of it is held -/
def frz (b : Bool) (ρ : Rho) (rs : List Rv) : Rho := if b = true then ρ else freezeAll ρ rs
theorem frz_pr {b : Bool} {ρ : Rho} {d : D} {rs : List Rv} : frz b ρ (.pr d :: rs) = frz b ρ rs := by unfold frz; rw [freezeAll]
theorem frz_nil {b : Bool} {ρ : Rho} : frz b ρ [] = ρ := by unfold frz; rw [freezeAll]; split <;> rfl
mutual
def setG : G → D → Rho → (Rho → Prop) → Prop
  | .nm i, d, ρ, k => k (ρ.set i (some (false, d)))
  | .tp gs, d, ρ, k => match d with
    | .tup ds => gs.length = ds.length ∧ setGs gs ds ρ k
    | .lst ds => gs.length = ds.length ∧ setGs gs ds ρ k
    | _ => False
def setGs : List G → List D → Rho → (Rho → Prop) → Prop
  | [], _, ρ, k => k ρ
  | g :: gs, d :: ds, ρ, k => setG g d ρ fun ρ' => setGs gs ds ρ' k
  | _ :: _, [], _, _ => False
end
def setMany (ρ : Rho) : List Nat → List D → Rho
  | j :: js, d :: ds => setMany (ρ.set j (some (false, d))) js ds
  | _, _ => ρ
def itemsOf : D → Option (List D)
  | .lst xs => some xs | .tup xs => some xs | .str x => some (signs x) | _ => none
def wipeR (ρ : Rho) : List Nat → Rho
  | [] => ρ
  | v :: vs => (wipeR ρ vs).set v none
/-- no slot of these holds a thing that may be changed -/
def noOwn (ρ : Rho) (vs : List Nat) : Bool := vs.all fun v => match ρ[v]? with
  | some (some (true, _)) => false
  | _ => true
abbrev Xp := Nat → List D → Prop
/-- what is wished of an exception: its class, its fields, the slots as they are then -/
abbrev Xr := Nat → List D → Rho → Prop
def noX : Xr := fun _ _ _ => False
def noXp : Xp := fun _ _ => False
/-- .. of a call's: what was handed in is held -/
def xat (x : Xr) (ρ : Rho) (rs : List Rv) : Xp := fun c l => x c l (freezeAll ρ rs)
def xl (x : Xp) : Xr := fun c l _ => x c l
mutual
def wE (Γ : Gm) (x : Xr) : E → Rho → (Rv → Rho → Prop) → Prop
  | .int i, ρ, Q => Q (.pr (.int i)) ρ
  | .bl b, ρ, Q => Q (.pr (.bl b)) ρ
  | .non, ρ, Q => Q (.pr .non) ρ
  | .str y, ρ, Q => Q (.pr (.str y)) ρ
  | .var i, ρ, Q => match ρ[i]? with
    | some (some (true, _)) => Q (.sl i) ρ
    | some (some (false, d)) => Q (.pr d) ρ
    | _ => False
  | .glb g, ρ, Q => Q (.pr (Γ.gD g)) ρ
  | .bin op a b, ρ, Q => wE Γ x a ρ fun r ρ1 => wE Γ x b ρ1 fun s ρ2 => useR ρ2 r fun d => useR ρ2 s fun e => dBin op d e fun z => Q (.pr z) ρ2
  | .neg a, ρ, Q => wE Γ x a ρ fun r ρ1 => useR ρ1 r fun d => ∃ i, d = .int i ∧ Q (.pr (.int (-i))) ρ1
  | .not a, ρ, Q => wE Γ x a ρ fun r ρ1 => useR ρ1 r fun d => ∃ b, d.truth = some b ∧ Q (.pr (.bl (!b))) ρ1
  | .and a b, ρ, Q => wE Γ x a ρ fun r ρ1 => useR ρ1 r fun d => ∃ c, d.truth = some c ∧ if c = true then wE Γ x b ρ1 Q else Q r ρ1
  | .or a b, ρ, Q => wE Γ x a ρ fun r ρ1 => useR ρ1 r fun d => ∃ c, d.truth = some c ∧ if c = true then Q r ρ1 else wE Γ x b ρ1 Q
  | .cmp op a b, ρ, Q => wE Γ x a ρ fun r ρ1 => wE Γ x b ρ1 fun s ρ2 => useR ρ2 r fun d => useR ρ2 s fun e => dCmp op d e fun z => Q (.pr (.bl z)) ρ2
  | .cmp2 o1 o2 a b c, ρ, Q => wE Γ x a ρ fun r ρ1 => wE Γ x b ρ1 fun s ρ2 => useR ρ2 r fun d => useR ρ2 s fun e => dCmp o1 d e fun z =>
      if z = true then wE Γ x c ρ2 fun t ρ3 => useR ρ3 s fun e => useR ρ3 t fun f => dCmp o2 e f fun y => Q (.pr (.bl y)) ρ3 else Q (.pr (.bl false)) ρ2
  | .ite c a b, ρ, Q => wT Γ x c ρ fun z ρ1 => if z = true then wE Γ x a ρ1 Q else wE Γ x b ρ1 Q
  | .tup es, ρ, Q => wEs Γ x es ρ fun ds ρ1 => ds.length ≤ sizeLine ∧ Q (.pr (.tup ds)) ρ1
  | .lst es, ρ, Q => wEs Γ x es ρ fun ds ρ1 => ds.length ≤ sizeLine ∧ Q (.pr (.lst ds)) ρ1
  | .dct0, ρ, Q => Q (.pr (.dct [] [])) ρ
  | .dct1 k v, ρ, Q => wE Γ x k ρ fun r ρ1 => wE Γ x v ρ1 fun s ρ2 => escR ρ2 r fun d ρ3 => escR ρ3 s fun e ρ4 => ∃ y, d = .str y ∧ Q (.pr (.dct [.str y] [e])) ρ4
  | .ix a b, ρ, Q => wE Γ x a ρ fun r ρ1 => wE Γ x b ρ1 fun s ρ2 => useR ρ2 r fun d => useR ρ2 s fun e => dIx d e fun z => Q (.pr z) ρ2
  | .slL a lo, ρ, Q => wE Γ x a ρ fun r ρ1 => wE Γ x lo ρ1 fun s ρ2 => useR ρ2 r fun d => useR ρ2 s fun e => ∃ i, e = .int i ∧ dSl d (some i) none fun z => Q (.pr z) ρ2
  | .slU a hi, ρ, Q => wE Γ x a ρ fun r ρ1 => wE Γ x hi ρ1 fun s ρ2 => useR ρ2 r fun d => useR ρ2 s fun e => ∃ i, e = .int i ∧ dSl d none (some i) fun z => Q (.pr z) ρ2
  | .slLU a lo hi, ρ, Q => wE Γ x a ρ fun r ρ1 => wE Γ x lo ρ1 fun s ρ2 => useR ρ2 s fun e => ∃ i, e = .int i ∧ wE Γ x hi ρ2 fun t ρ3 => useR ρ3 r fun d => useR ρ3 t fun f => ∃ j, f = .int j ∧ dSl d (some i) (some j) fun z => Q (.pr z) ρ3
  | .slR a, ρ, Q => wE Γ x a ρ fun r ρ1 => useR ρ1 r fun d => match d with
    | .lst xs => Q (.pr (.lst xs.reverse)) ρ1
    | .str y => Q (.pr (.str ⟨y.cps.reverse⟩)) ρ1
    | _ => False
  | .isi a T, ρ, Q => wE Γ x a ρ fun r ρ1 => useR ρ1 r fun d => ∃ b, dIsi d T = some b ∧ Q (.pr (.bl b)) ρ1
  | .call f es, ρ, Q => wAs Γ x es ρ fun rs ρ1 => useAll ρ1 rs fun ds => ds.length = Γ.arity f ∧ Γ.phi f ds (fun z => Q (.pr z) (frz z.flat ρ1 rs)) (xat x ρ1 rs)
  | .callk j es ks, ρ, Q => wAs Γ x es ρ fun rs1 ρ1 => wAs Γ x ks ρ1 fun rs2 ρ2 => rs1.length = (Γ.ks j).np ∧ rs2.length = (Γ.ks j).ks.length ∧ useAll ρ2 (rs1 ++ rs2) fun ds => Γ.phi (Γ.ks j).f ((Γ.ks j).put ds) (fun z => Q (.pr z) (frz z.flat ρ2 (rs1 ++ rs2))) (xat x ρ2 (rs1 ++ rs2))
  | .blt id es, ρ, Q => wAs Γ x es ρ fun rs ρ1 => useAll ρ1 rs fun ds => dBlt id ds fun z => Q (.pr z) ρ1
  | .mth id o es, ρ, Q => wE Γ x o ρ fun r ρ1 => useR ρ1 r fun d0 => dIsi d0 (mT id) = some true ∧ wAs Γ x es ρ1 fun rs ρ2 => useR ρ2 r fun d => useAll ρ2 rs fun ds => dMth id d ds fun z => Q (.pr z) ρ2
  | .mut id i es, ρ, Q => (∃ d0, ρ[i]? = some (some (true, d0)) ∧ dIsi d0 (mT id) = some true) ∧ wEs Γ x es ρ fun ds ρ1 => ∃ d, ρ1[i]? = some (some (true, d)) ∧ dMut id d ds fun d' z => Q (.pr z) (ρ1.set i (some (true, d')))
  | .lc elt tg it cond own, ρ, Q => wI Γ x it ρ fun ds ρ1 => noOwn ρ1 (own.map (·.2)) = true ∧ ∃ W : Nat → List D → Prop, W 0 [] ∧
      (∀ i d acc, ds[i]? = some d → W i acc → setG tg d (wipeR ρ1 (own.map (·.2))) fun ρ2 => wT Γ noX cond ρ2 fun c ρ3 => ρ3 = ρ2 ∧
        if c = true then acc.length < sizeLine ∧ wE Γ noX elt ρ2 fun r ρ4 => escR ρ4 r fun z ρ5 => ρ5 = ρ2 ∧ W (i + 1) (acc ++ [z]) else W (i + 1) acc) ∧
      ∀ acc, W ds.length acc → Q (.pr (.lst acc)) (wipeR ρ1 (own.map (·.2)))
  | .fld a c j, ρ, Q => wE Γ x a ρ fun r ρ1 => useR ρ1 r fun d => ∃ fs z, d = .obj c fs ∧ fs[j]? = some z ∧ Q (.pr z) ρ1
  | .appn c f es, ρ, Q => wAs Γ x es ρ fun rs ρ1 => useAll ρ1 rs fun ds => ds.length = Γ.arity f ∧ Γ.phi f ds (fun z => Q (.pr z) (frz z.flat ρ1 rs)) (xat x ρ1 rs)
  | .apps c f a b, ρ, Q => wE Γ x a ρ fun r ρ1 => wE Γ x b ρ1 fun s ρ2 => useAll ρ2 [r, s] fun ds => (∃ fs y, ds = [.obj c fs, y]) ∧ 2 = Γ.arity f ∧ Γ.phi f ds (fun z => Q (.pr z) (frz z.flat ρ2 [r, s])) (xat x ρ2 [r, s])
  | .appc c f a b, ρ, Q => wE Γ x a ρ fun r ρ1 => wE Γ x b ρ1 fun s ρ2 => useAll ρ2 [r, s] fun ds => ∃ fs y, ds = [y, .obj c fs] ∧ 2 = Γ.arity f ∧ Γ.phi f [.obj c fs, y] (fun z => ∃ k, z = .bl k ∧ Q (.pr (.bl k)) (frz z.flat ρ2 [r, s])) noXp
  | .appm c f o es, ρ, Q => wE Γ x o ρ fun r ρ1 => useR ρ1 r fun d0 => (∃ fs, d0 = .obj c fs) ∧ wAs Γ x es ρ1 fun rs ρ2 => useAll ρ2 (r :: rs) fun ds => ds.length = Γ.arity f ∧ Γ.phi f ds (fun z => Q (.pr z) (frz z.flat ρ2 (r :: rs))) (xat x ρ2 (r :: rs))
  | .appk c j o ks, ρ, Q => wE Γ x o ρ fun r ρ1 => useR ρ1 r fun d0 => (∃ fs, d0 = .obj c fs) ∧ wAs Γ x ks ρ1 fun rs ρ2 => 1 = (Γ.ks j).np ∧ rs.length = (Γ.ks j).ks.length ∧ useAll ρ2 (r :: rs) fun ds => Γ.phi (Γ.ks j).f ((Γ.ks j).put ds) (fun z => Q (.pr z) (frz z.flat ρ2 (r :: rs))) (xat x ρ2 (r :: rs))
  | .propm c f a, ρ, Q => wE Γ x a ρ fun r ρ1 => useAll ρ1 [r] fun ds => (∃ fs, ds = [.obj c fs]) ∧ 1 = Γ.arity f ∧ Γ.phi f ds (fun z => Q (.pr z) (frz z.flat ρ1 [r])) noXp
  | .cm c f es, ρ, Q => wAs Γ x es ρ fun rs ρ1 => useAll ρ1 rs fun ds => ds.length + 1 = Γ.arity f ∧ Γ.phi f (.atom (2 * c + 2) :: ds) (fun z => Q (.pr z) (frz z.flat ρ1 rs)) (xat x ρ1 rs)
  | .cmk c j ks, ρ, Q => wAs Γ x ks ρ fun rs ρ1 => 1 = (Γ.ks j).np ∧ rs.length = (Γ.ks j).ks.length ∧ useAll ρ1 rs fun ds => Γ.phi (Γ.ks j).f ((Γ.ks j).put (.atom (2 * c + 2) :: ds)) (fun z => Q (.pr z) (frz z.flat ρ1 rs)) (xat x ρ1 rs)
  | .appv i c f es, ρ, Q => ρ[i]? = some (some (false, .atom (2 * c + 2))) ∧ wAs Γ x es ρ fun rs ρ1 => useAll ρ1 rs fun ds => ds.length = Γ.arity f ∧ Γ.phi f ds (fun z => Q (.pr z) (frz z.flat ρ1 rs)) (xat x ρ1 rs)
  | .appb _ c f a b, ρ, Q => wE Γ x a ρ fun r ρ1 => wE Γ x b ρ1 fun s ρ2 => useAll ρ2 [r, s] fun ds => (∃ fs gs, ds = [.obj c fs, .obj c gs]) ∧ 2 = Γ.arity f ∧ Γ.phi f ds (fun z => Q (.pr z) (frz z.flat ρ2 [r, s])) (xat x ρ2 [r, s])
  | .isc c a, ρ, Q => wE Γ x a ρ fun r ρ1 => useR ρ1 r fun d => ∃ b, dIsc c d = some b ∧ Q (.pr (.bl b)) ρ1
  | .fstr es, ρ, Q => wF Γ x es Str.empty ρ fun y ρ1 => Q (.pr (.str y)) ρ1
  | .ownd e, ρ, Q => wE Γ x e ρ fun r ρ1 => ∃ xs, r = .pr (.lst xs) ∧ Q (.pr (.lst xs)) ρ1
  | .lenm c f a, ρ, Q => wE Γ x a ρ fun r ρ1 => useAll ρ1 [r] fun ds => (∃ fs, ds = [.obj c fs]) ∧ 1 = Γ.arity f ∧ Γ.phi f ds (fun z => ∃ i, z = .int i ∧ (0 ≤ i ∧ i < 2 ^ 63) ∧ Q (.pr (.int i)) (frz z.flat ρ1 [r])) noXp
  | .appe c f a b, ρ, Q => wE Γ x a ρ fun r ρ1 => wE Γ x b ρ1 fun s ρ2 => useAll ρ2 [r, s] fun ds => (∃ fs y, ds = [.obj c fs, y] ∧ dIsc c y = some false) ∧ 2 = Γ.arity f ∧ Γ.phi f ds (fun z => ∃ k, z = .bl k ∧ Q (.pr (.bl k)) (frz z.flat ρ2 [r, s])) noXp
  | .newk c j ks, ρ, Q => wAs Γ x ks ρ fun rs ρ1 => 0 = (Γ.ks j).np ∧ rs.length = (Γ.ks j).ks.length ∧ useAll ρ1 rs fun ds => Γ.phi (Γ.ks j).f ((Γ.ks j).put ds) (fun z => Q (.pr z) (frz z.flat ρ1 rs)) (xat x ρ1 rs)
  | .lstR a, ρ, Q => wE Γ x a ρ fun r ρ1 => useR ρ1 r fun d => ∃ j, d = .int j ∧ (0 ≤ j ∧ j ≤ 16777216) ∧ Q (.pr (.lst ((List.range j.toNat).map fun i : Nat => D.int (i : Int)))) ρ1
  | .appq ne c f a b, ρ, Q => wE Γ x a ρ fun r ρ1 => wE Γ x b ρ1 fun s ρ2 => useAll ρ2 [r, s] fun ds => (∃ fs gs, ds = [.obj c fs, .obj c gs]) ∧ 2 = Γ.arity f ∧ Γ.phi f ds (fun z => ∃ k, z = .bl k ∧ Q (.pr (.bl (xorB ne k))) (frz z.flat ρ2 [r, s])) noXp
  | .lc2 elt tg it cond tg1 it1 cond1 own ow1, ρ, Q => wI Γ x it ρ fun ds ρ1 => noOwn ρ1 (own.map (·.2)) = true ∧ ∃ W : Nat → List D → Prop, W 0 [] ∧
      (∀ i d acc, ds[i]? = some d → W i acc → setG tg d (wipeR ρ1 (own.map (·.2))) fun ρ2 => wT Γ noX cond ρ2 fun c ρ3 => ρ3 = ρ2 ∧
        if c = true then wI Γ noX it1 ρ2 fun es ρ4 => ρ4 = ρ2 ∧ ∃ V : Nat → List D → Prop, V 0 acc ∧
          (∀ j e bcc, es[j]? = some e → V j bcc → setG tg1 e (wipeR ρ2 ow1) fun ρ5 => wT Γ noX cond1 ρ5 fun c1 ρ6 => ρ6 = ρ5 ∧
            if c1 = true then bcc.length < sizeLine ∧ wE Γ noX elt ρ5 fun r ρ7 => escR ρ7 r fun z ρ8 => ρ8 = ρ5 ∧ V (j + 1) (bcc ++ [z]) else V (j + 1) bcc) ∧
          ∀ bcc, V es.length bcc → W (i + 1) bcc else W (i + 1) acc) ∧
      ∀ acc, W ds.length acc → Q (.pr (.lst acc)) (wipeR ρ1 (own.map (·.2)))
  | .tupR a, ρ, Q => wE Γ x a ρ fun r ρ1 => useR ρ1 r fun d => ∃ j, d = .int j ∧ (0 ≤ j ∧ j ≤ 16777216) ∧ Q (.pr (.tup ((List.range j.toNat).map fun i : Nat => D.int (i : Int)))) ρ1
def wT (Γ : Gm) (x : Xr) : E → Rho → (Bool → Rho → Prop) → Prop
  | .not a, ρ, Q => wT Γ x a ρ fun b ρ1 => Q (!b) ρ1
  | .and a b, ρ, Q => wT Γ x a ρ fun c ρ1 => if c = true then wT Γ x b ρ1 Q else Q false ρ1
  | .or a b, ρ, Q => wT Γ x a ρ fun c ρ1 => if c = true then Q true ρ1 else wT Γ x b ρ1 Q
  | .ite c a b, ρ, Q => wT Γ x c ρ fun z ρ1 => if z = true then wT Γ x a ρ1 Q else wT Γ x b ρ1 Q
  | .cmp op a b, ρ, Q => wE Γ x a ρ fun r ρ1 => wE Γ x b ρ1 fun s ρ2 => useR ρ2 r fun d => useR ρ2 s fun e => dCmp op d e fun z => Q z ρ2
  | .cmp2 o1 o2 a b c, ρ, Q => wE Γ x a ρ fun r ρ1 => wE Γ x b ρ1 fun s ρ2 => useR ρ2 r fun d => useR ρ2 s fun e => dCmp o1 d e fun z =>
      if z = true then wE Γ x c ρ2 fun t ρ3 => useR ρ3 s fun e => useR ρ3 t fun f => dCmp o2 e f fun y => Q y ρ3 else Q false ρ2
  | e, ρ, Q => wE Γ x e ρ fun r ρ1 => useR ρ1 r fun d => ∃ b, d.truth = some b ∧ Q b ρ1
/-- items of a display: nothing of them is changed any more -/
def wEs (Γ : Gm) (x : Xr) : Es → Rho → (List D → Rho → Prop) → Prop
  | .nil, ρ, Q => Q [] ρ
  | .cons e r, ρ, Q => wE Γ x e ρ fun v ρ1 => escR ρ1 v fun d ρ2 => wEs Γ x r ρ2 fun ds ρ3 => Q (d :: ds) ρ3
  | .star e r, ρ, Q => wE Γ x e ρ fun v ρ1 => useR ρ1 v fun d => ∃ xs, starD d = some xs ∧ wEs Γ x r ρ1 fun ds ρ2 => Q (xs ++ ds) ρ2
/-- arguments -/
def wAs (Γ : Gm) (x : Xr) : Es → Rho → (List Rv → Rho → Prop) → Prop
  | .nil, ρ, Q => Q [] ρ
  | .cons e r, ρ, Q => wE Γ x e ρ fun v ρ1 => wAs Γ x r ρ1 fun vs ρ2 => Q (v :: vs) ρ2
  | .star _ _, _, _ => False
/-- the parts of an f-string -/
def wF (Γ : Gm) (x : Xr) : Es → Str → Rho → (Str → Rho → Prop) → Prop
  | .nil, acc, ρ, Q => Q acc ρ
  | .cons e r, acc, ρ, Q => wE Γ x e ρ fun v ρ1 => useR ρ1 v fun d => ∃ y, textD d = some y ∧ (acc ++ y).length ≤ sizeLine ∧ wF Γ x r (acc ++ y) ρ1 Q
  | .star _ _, _, _, _ => False
def wI (Γ : Gm) (x : Xr) : I → Rho → (List D → Rho → Prop) → Prop
  | .ov e, ρ, Q => wE Γ x e ρ fun v ρ1 => escR ρ1 v fun d ρ2 => ∃ ds, itemsOf d = some ds ∧ Q ds ρ2
  | .rng a, ρ, Q => wE Γ x a ρ fun v ρ1 => useR ρ1 v fun d => ∃ j, d = .int j ∧ (-(2 ^ 62) ≤ j ∧ j < 2 ^ 62) ∧ Q ((List.range j.toNat).map fun i : Nat => D.int (i : Int)) ρ1
  | .rng2 a b, ρ, Q => wE Γ x a ρ fun v ρ1 => wE Γ x b ρ1 fun u ρ2 => useR ρ2 v fun d => useR ρ2 u fun e => ∃ i j, d = .int i ∧ e = .int j ∧ (-(2 ^ 62) ≤ i ∧ i < 2 ^ 62 ∧ -(2 ^ 62) ≤ j ∧ j < 2 ^ 62) ∧
      Q ((List.range (j - i).toNat).map fun k : Nat => D.int (i + (k : Int))) ρ2
  | .zip a b, ρ, Q => wE Γ x a ρ fun v ρ1 => escR ρ1 v fun d ρ2 => wE Γ x b ρ2 fun u ρ3 => escR ρ3 u fun e ρ4 => ∃ ds es, itemsOf d = some ds ∧ itemsOf e = some es ∧ Q (List.zipWith (fun p q => D.tup [p, q]) ds es) ρ4
  | .enm a, ρ, Q => wE Γ x a ρ fun v ρ1 => escR ρ1 v fun d ρ2 => ∃ ds, d = .lst ds ∧ Q ((List.range ds.length).zipWith (fun (i : Nat) p => D.tup [D.int (i : Int), p]) ds) ρ2
end
mutual
/-- a handler's value: l the exception's fields -/
def hE (l : List D) (ρ : Rho) : HE → Option D
  | .non => some .non
  | .bl b => some (.bl b)
  | .int i => some (.int i)
  | .str x => some (.str x)
  | .var i => match ρ[i]? with
    | some (some (false, d)) => some d
    | _ => none
  | .inc i k => match ρ[i]? with
    | some (some (false, .int j)) => some (.int (j + k))
    | _ => none
  | .fld j => l[j]?
  | .tup es => (hEs l ρ es).map .tup
  | .lst es => (hEs l ρ es).map .lst
def hEs (l : List D) (ρ : Rho) : HEs → Option (List D)
  | .nil => some []
  | .cons e r => match hE l ρ e, hEs l ρ r with
    | some d, some ds => some (d :: ds)
    | _, _ => none
end
def unO (ρ : Rho) : Option Nat → Bool
  | none => true
  | some j => match ρ[j]? with
    | some (some (true, _)) => false
    | some _ => true
    | none => false
def forg (ρ : Rho) : Option Nat → Rho
  | none => ρ
  | some j => ρ.set j none
/-- what a try wishes of an exception of its body: the handler's assignment, if it is of its class -/
def hX (Γ : Gm) (x : Xr) (c : Nat) (a : Option Nat) (i : Nat) (h : HE) (nx : Rho → Prop) : Xr := fun k l ρ =>
  if Γ.exm k c = true then unO ρ a = true ∧ ∃ d, hE l (forg ρ a) h = some d ∧ nx ((forg ρ a).set i (some (false, d))) else x k l ρ
/-- where a statement ends -/
structure En where
  nx : Rho → Prop
  rt : D → Prop
  bk : Rho → Prop := fun _ => False
  ct : Rho → Prop := fun _ => False
mutual
def wS (Γ : Gm) (x : Xr) : S → En → Rho → Prop
  | .asg g e, D, ρ => wE Γ x e ρ fun r ρ1 => escR ρ1 r fun d ρ2 => setG g d ρ2 D.nx
  | .asgO i e, D, ρ => wE Γ x e ρ fun r ρ1 => match r with
    | .pr d => D.nx (ρ1.set i (some (true, d)))
    | _ => False
  | .par js es, D, ρ => wEs Γ x es ρ fun ds ρ1 => ds.length = js.length ∧ D.nx (setMany ρ1 js ds)
  | .parO i j a b, D, ρ => wE Γ x a ρ fun r ρ1 => match r with
    | .pr d => wE Γ x b ρ1 fun s ρ2 => escR ρ2 s fun e ρ3 => D.nx ((ρ3.set i (some (true, d))).set j (some (false, e)))
    | _ => False
  | .aug i op e, D, ρ => match ρ[i]? with
    | some (some (false, d)) => wE Γ x e ρ fun s ρ1 => useR ρ1 s fun f => dAug op d f fun z => D.nx (ρ1.set i (some (false, z)))
    | _ => False
  | .setix i k e, D, ρ => wE Γ x e ρ fun r ρ1 => escR ρ1 r fun d ρ2 => (∃ x0, ρ2[i]? = some (some (true, x0))) ∧ wE Γ x k ρ2 fun s ρ3 => useR ρ3 s fun f => ∃ xs, ρ3[i]? = some (some (true, .lst xs)) ∧
      ∃ j m, f = .int j ∧ ixN xs.length j = some m ∧ D.nx (ρ3.set i (some (true, .lst (xs.set m d))))
  | .exp e, D, ρ => wE Γ x e ρ fun _ ρ1 => D.nx ρ1
  | .ret e, D, ρ => wE Γ x e ρ fun r ρ1 => escR ρ1 r fun d _ => D.rt d
  | .retN, D, _ => D.rt .non
  | .ite c a b, D, ρ => wT Γ x c ρ fun z ρ1 => if z = true then wSs Γ x a D ρ1 else wSs Γ x b D ρ1
  | .for g it b, D, ρ => wI Γ x it ρ fun ds ρ1 => ∃ W : Nat → Rho → Prop, W 0 ρ1 ∧
      (∀ i d ρ2, ds[i]? = some d → W i ρ2 → setG g d ρ2 fun ρ3 => wSs Γ x b { D with nx := W (i + 1), ct := W (i + 1), bk := D.nx } ρ3) ∧ ∀ ρ2, W ds.length ρ2 → D.nx ρ2
  | .whl c b, D, ρ => ∃ W : Nat → Rho → Prop, (∃ m, m < 2 ^ 100 ∧ W m ρ) ∧ ∀ m ρ1, W m ρ1 → wT Γ x c ρ1 fun z ρ2 =>
      if z = true then wSs Γ x b { D with nx := fun ρ3 => ∃ m', m' < m ∧ W m' ρ3, ct := fun ρ3 => ∃ m', m' < m ∧ W m' ρ3, bk := D.nx } ρ2 else D.nx ρ2
  | .brk, D, ρ => D.bk ρ
  | .cnt, D, ρ => D.ct ρ
  | .pass, D, ρ => D.nx ρ
  | .rse, _, _ => False
  | .raise c _ es, _, ρ => wEs Γ x es ρ fun ds ρ1 => x c ds ρ1
  | .try1 b c a i h, D, ρ => wSs Γ (hX Γ x c a i h D.nx) b D ρ
def wSs (Γ : Gm) (x : Xr) : Ss → En → Rho → Prop
  | .nil, D, ρ => D.nx ρ
  | .cons s r, D, ρ => wS Γ x s { D with nx := wSs Γ x r D } ρ
end

/-! ### how often it draws at most -/
mutual
def cE (Γ : Gm) : E → Nat
  | .bin _ a b | .and a b | .or a b | .cmp _ a b | .ix a b | .slL a b | .slU a b | .dct1 a b => cE Γ a + cE Γ b
  | .neg a | .not a | .slR a | .isi a _ => cE Γ a
  | .cmp2 _ _ a b c | .slLU a b c => cE Γ a + cE Γ b + cE Γ c
  | .ite c a b => cE Γ c + (cE Γ a + cE Γ b)
  | .tup es | .lst es | .blt _ es | .mut _ _ es => cEs Γ es
  | .call f es => cEs Γ es + Γ.fcost f
  | .callk j es ks => cEs Γ es + cEs Γ ks + Γ.fcost (Γ.ks j).f
  | .mth _ o es => cE Γ o + cEs Γ es
  | .lc elt _ it cond _ => cI Γ it + 2 ^ 63 * (cE Γ cond + cE Γ elt)
  | .fld a _ _ | .tupR a | .lstR a => cE Γ a
  | .lenm _ f a => cE Γ a + Γ.fcost f
  | .appe _ f a b => cE Γ a + cE Γ b + Γ.fcost f
  | .newk _ j es => cEs Γ es + Γ.fcost (Γ.ks j).f
  | .lc2 elt _ it cond _ it1 cond1 _ _ => cI Γ it + 2 ^ 63 * (cE Γ cond + (cI Γ it1 + 2 ^ 63 * (cE Γ cond1 + cE Γ elt)))
  | .appn _ f es => cEs Γ es + Γ.fcost f
  | .apps _ f a b | .appc _ f a b => cE Γ a + cE Γ b + Γ.fcost f
  | .appm _ f o es => cE Γ o + cEs Γ es + Γ.fcost f
  | .propm _ f a => cE Γ a + Γ.fcost f
  | .isc _ a | .ownd a => cE Γ a
  | .cm _ f es | .appv _ _ f es => cEs Γ es + Γ.fcost f
  | .cmk _ j es => cEs Γ es + Γ.fcost (Γ.ks j).f
  | .appb _ _ f a b | .appq _ _ f a b => cE Γ a + cE Γ b + Γ.fcost f
  | .fstr es => cEs Γ es
  | .appk _ j o es => cE Γ o + cEs Γ es + Γ.fcost (Γ.ks j).f
  | _ => 0
def cEs (Γ : Gm) : Es → Nat
  | .nil => 0
  | .cons e r | .star e r => cE Γ e + cEs Γ r
def cI (Γ : Gm) : I → Nat
  | .ov e | .rng e | .enm e => cE Γ e
  | .rng2 a b | .zip a b => cE Γ a + cE Γ b
end
mutual
def cS (Γ : Gm) : S → Nat
  | .asg _ e | .asgO _ e | .aug _ _ e | .exp e | .ret e => cE Γ e
  | .par _ es => cEs Γ es
  | .setix _ a b | .parO _ _ a b => cE Γ a + cE Γ b
  | .ite c a b => cE Γ c + (cSs Γ a + cSs Γ b)
  | .for _ it b => cI Γ it + 2 ^ 63 * cSs Γ b
  | .whl c b => 2 ^ 100 * (cE Γ c + cSs Γ b)
  | .raise _ _ es => cEs Γ es
  | .try1 b _ _ _ _ => cSs Γ b
  | _ => 0
def cSs (Γ : Gm) : Ss → Nat
  | .nil => 0
  | .cons s r => cS Γ s + cSs Γ r
end
end DL

set_option Elab.async false
set_option linter.all false
set_option maxRecDepth 100000
set_option maxHeartbeats 4000000
namespace DL
open PySem L2
theorem dBin_mono {op : Operator} {x y : D} {k k' : D → Prop} (h : ∀ z, k z → k' z) : dBin op x y k → dBin op x y k' := by
  fun_cases dBin op x y k <;> (try simp only [dBin]) <;> first | exact h _ | exact fun q => ⟨q.1, h _ q.2⟩ | exact fun q => ⟨q.1, q.2.1, h _ q.2.2⟩ | (intro q; exact q.elim)
theorem dCmp_mono {op : CmpOp} {x y : D} {k k' : Bool → Prop} (h : ∀ z, k z → k' z) : dCmp op x y k → dCmp op x y k' := by
  fun_cases dCmp op x y k <;> (try simp only [dCmp]) <;> first | exact h _ | exact fun q => ⟨q.1, h _ q.2⟩ | (intro q; exact q.elim)
theorem dIx_mono {x y : D} {k k' : D → Prop} (h : ∀ z, k z → k' z) : dIx x y k → dIx x y k' := by
  fun_cases dIx x y k <;> (try simp only [dIx]) <;> first | exact fun ⟨d, e, q⟩ => ⟨d, e, h _ q⟩ | (intro q; exact q.elim)
theorem dSl_mono {x : D} {lo hi : Option Int} {k k' : D → Prop} (h : ∀ z, k z → k' z) : dSl x lo hi k → dSl x lo hi k' := by
  fun_cases dSl x lo hi k <;> (try simp only [dSl]) <;> first | exact h _ | (intro q; exact q.elim)
theorem dBlt_mono {id : String} {xs : List D} {k k' : D → Prop} (h : ∀ z, k z → k' z) : dBlt id xs k → dBlt id xs k' := by
  fun_cases dBlt id xs k <;> (try simp only [dBlt]) <;> first | exact h _ | exact fun ⟨n, e, l, q⟩ => ⟨n, e, l, h _ q⟩ | exact fun ⟨d, e, q⟩ => ⟨d, e, h _ q⟩ | exact fun ⟨d, e, q⟩ => ⟨d, e, fun a b c => h _ (q a b c)⟩ | exact fun q => ⟨q.1, h _ q.2⟩ | (intro q; exact q.elim)
theorem dMth_mono {id : String} {x : D} {xs : List D} {k k' : D → Prop} (h : ∀ z, k z → k' z) : dMth id x xs k → dMth id x xs k' := by
  fun_cases dMth id x xs k <;> (try simp only [dMth]) <;> first | exact fun ⟨a, b, c, q⟩ => ⟨a, b, c, h _ q⟩ | exact fun ⟨d, e, z, q⟩ => ⟨d, e, z, h _ q⟩ | exact fun ⟨d, e, z, q⟩ => ⟨d, e, z, fun i e => h _ (q i e)⟩ | exact fun ⟨d, e, a, b, c, z, q⟩ => ⟨d, e, a, b, c, z, h _ q⟩ | (intro q; exact q.elim)
theorem dMut_mono {id : String} {x : D} {xs : List D} {k k' : D → D → Prop} (h : ∀ y z, k y z → k' y z) : dMut id x xs k → dMut id x xs k' := by
  fun_cases dMut id x xs k <;> (try simp only [dMut]) <;> first | exact fun q => ⟨q.1, h _ _ q.2⟩ | exact fun ⟨d, e, q⟩ => ⟨d, e, h _ _ q⟩ | exact fun ⟨j, d, a, b, c, q⟩ => ⟨j, d, a, b, c, h _ _ q⟩ | (intro q; exact q.elim)
theorem useR_mono {ρ : Rho} {r : Rv} {k k' : D → Prop} (h : ∀ z, k z → k' z) : useR ρ r k → useR ρ r k' := by
  cases r with
  | pr d => exact h _
  | sl i =>
    simp only [useR]
    split
    · exact h _
    · exact id
theorem escR_mono {ρ : Rho} {r : Rv} {k k' : D → Rho → Prop} (h : ∀ z ρ', k z ρ' → k' z ρ') : escR ρ r k → escR ρ r k' := by
  cases r with
  | pr d => exact h _ _
  | sl i =>
    simp only [escR]
    split
    · exact h _ _
    · exact h _ _
    · exact id
theorem useAll_mono {ρ : Rho} : ∀ {rs : List Rv} {k k' : List D → Prop}, (∀ z, k z → k' z) → useAll ρ rs k → useAll ρ rs k'
  | [], _, _, h => h _
  | _ :: _, _, _, h => useR_mono fun _ => useAll_mono fun _ => h _
mutual
theorem setG_mono : ∀ (g : G) {d : D} {ρ : Rho} {k k' : Rho → Prop}, (∀ z, k z → k' z) → setG g d ρ k → setG g d ρ k'
  | .nm i, _, _, _, _, h => h _
  | .tp gs, d, ρ, k, k', h => by
    cases d <;> simp only [setG] <;> first | exact id | exact fun q => ⟨q.1, setGs_mono gs h q.2⟩
theorem setGs_mono : ∀ (gs : List G) {ds : List D} {ρ : Rho} {k k' : Rho → Prop}, (∀ z, k z → k' z) → setGs gs ds ρ k → setGs gs ds ρ k'
  | [], _, _, _, _, h => by simp only [setGs]; exact h _
  | g :: gs, ds, _, _, _, h => by
    cases ds with
    | nil => simp only [setGs]; exact id
    | cons d ds => simp only [setGs]; exact setG_mono g fun _ => setGs_mono gs h
end
variable {Γ : Gm}
theorem ite_mono {c : Prop} [Decidable c] {A B A' B' : Prop} (h1 : A → A') (h2 : B → B') : (if c then A else B) → (if c then A' else B') := by
  split
  · exact h1
  · exact h2
mutual
theorem wE_mono : ∀ (e : E) {x x' : Xr} {ρ : Rho} {Q Q' : Rv → Rho → Prop}, (∀ c l ρ, x c l ρ → x' c l ρ) → (∀ r ρ', Q r ρ' → Q' r ρ') → wE Γ x e ρ Q → wE Γ x' e ρ Q'
  | .int i, _, _, _, _, _, hx, h => by simp only [wE]; exact h _ _
  | .bl i, _, _, _, _, _, hx, h => by simp only [wE]; exact h _ _
  | .non, _, _, _, _, _, hx, h => by simp only [wE]; exact h _ _
  | .str i, _, _, _, _, _, hx, h => by simp only [wE]; exact h _ _
  | .var i, _, _, _, _, _, hx, h => by
    simp only [wE]
    split
    · exact h _ _
    · exact h _ _
    · exact id
  | .glb g, _, _, _, _, _, hx, h => by simp only [wE]; exact h _ _
  | .bin op a b, _, _, _, _, _, hx, h => by simp only [wE]; exact wE_mono a hx fun _ _ => wE_mono b hx fun _ _ => useR_mono fun _ => useR_mono fun _ => dBin_mono fun _ => h _ _
  | .neg a, _, _, _, _, _, hx, h => by simp only [wE]; exact wE_mono a hx fun _ _ => useR_mono fun _ ⟨i, e, q⟩ => ⟨i, e, h _ _ q⟩
  | .not a, _, _, _, _, _, hx, h => by simp only [wE]; exact wE_mono a hx fun _ _ => useR_mono fun _ ⟨i, e, q⟩ => ⟨i, e, h _ _ q⟩
  | .and a b, _, _, _, _, _, hx, h => by simp only [wE]; exact wE_mono a hx fun _ _ => useR_mono fun _ ⟨i, e, q⟩ => ⟨i, e, ite_mono (wE_mono b hx h) (h _ _) q⟩
  | .or a b, _, _, _, _, _, hx, h => by simp only [wE]; exact wE_mono a hx fun _ _ => useR_mono fun _ ⟨i, e, q⟩ => ⟨i, e, ite_mono (h _ _) (wE_mono b hx h) q⟩
  | .cmp op a b, _, _, _, _, _, hx, h => by simp only [wE]; exact wE_mono a hx fun _ _ => wE_mono b hx fun _ _ => useR_mono fun _ => useR_mono fun _ => dCmp_mono fun _ => h _ _
  | .cmp2 _ _ a b c, _, _, _, _, _, hx, h => by
    simp only [wE]
    exact wE_mono a hx fun _ _ => wE_mono b hx fun _ _ => useR_mono fun _ => useR_mono fun _ => dCmp_mono fun _ => ite_mono (wE_mono c hx fun _ _ => useR_mono fun _ => useR_mono fun _ => dCmp_mono fun _ => h _ _) (h _ _)
  | .ite c a b, _, _, _, _, _, hx, h => by simp only [wE]; exact wT_mono c hx fun _ _ => ite_mono (wE_mono a hx h) (wE_mono b hx h)
  | .tup es, _, _, _, _, _, hx, h => by simp only [wE]; exact wEs_mono es hx fun _ _ q => ⟨q.1, h _ _ q.2⟩
  | .lst es, _, _, _, _, _, hx, h => by simp only [wE]; exact wEs_mono es hx fun _ _ q => ⟨q.1, h _ _ q.2⟩
  | .dct0, _, _, _, _, _, hx, h => by simp only [wE]; exact h _ _
  | .dct1 a b, _, _, _, _, _, hx, h => by simp only [wE]; exact wE_mono a hx fun _ _ => wE_mono b hx fun _ _ => escR_mono fun _ _ => escR_mono fun _ _ ⟨y, e, q⟩ => ⟨y, e, h _ _ q⟩
  | .ix a b, _, _, _, _, _, hx, h => by simp only [wE]; exact wE_mono a hx fun _ _ => wE_mono b hx fun _ _ => useR_mono fun _ => useR_mono fun _ => dIx_mono fun _ => h _ _
  | .slL a b, _, _, _, _, _, hx, h => by simp only [wE]; exact wE_mono a hx fun _ _ => wE_mono b hx fun _ _ => useR_mono fun _ => useR_mono fun _ ⟨i, e, q⟩ => ⟨i, e, dSl_mono (fun _ => h _ _) q⟩
  | .slU a b, _, _, _, _, _, hx, h => by simp only [wE]; exact wE_mono a hx fun _ _ => wE_mono b hx fun _ _ => useR_mono fun _ => useR_mono fun _ ⟨i, e, q⟩ => ⟨i, e, dSl_mono (fun _ => h _ _) q⟩
  | .slLU a b c, _, _, _, _, _, hx, h => by
    simp only [wE]
    exact wE_mono a hx fun _ _ => wE_mono b hx fun _ _ => useR_mono fun _ ⟨i, e, q⟩ => ⟨i, e, wE_mono c hx (fun _ _ => useR_mono fun _ => useR_mono fun _ ⟨j, f, q⟩ => ⟨j, f, dSl_mono (fun _ => h _ _) q⟩) q⟩
  | .slR a, _, _, _, _, _, hx, h => by
    simp only [wE]
    refine wE_mono a hx fun _ _ => useR_mono fun d => ?_
    cases d <;> first | exact h _ _ | exact id
  | .isi a T, _, _, _, _, _, hx, h => by simp only [wE]; exact wE_mono a hx fun _ _ => useR_mono fun _ ⟨i, e, q⟩ => ⟨i, e, h _ _ q⟩
  | .call f es, _, _, _, _, _, hx, h => by
    simp only [wE]
    exact wAs_mono es hx fun _ _ => useAll_mono fun _ q => ⟨q.1, Γ.pmono _ _ _ _ _ _ (fun _ => h _ _) (fun _ _ => hx _ _ _) q.2⟩
  | .callk f es ks, _, _, _, _, _, hx, h => by
    simp only [wE]
    exact wAs_mono es hx fun _ _ => wAs_mono ks hx fun _ _ ⟨l1, l2, q⟩ => ⟨l1, l2, useAll_mono (fun _ => Γ.pmono _ _ _ _ _ _ (fun z => h _ _) (fun _ _ => hx _ _ _)) q⟩
  | .blt id es, _, _, _, _, _, hx, h => by simp only [wE]; exact wAs_mono es hx fun _ _ => useAll_mono fun _ => dBlt_mono fun _ => h _ _
  | .mth id o es, _, _, _, _, _, hx, h => by simp only [wE]; exact wE_mono o hx fun _ _ => useR_mono fun _ ⟨e, q⟩ => ⟨e, wAs_mono es hx (fun _ _ => useR_mono fun _ => useAll_mono fun _ => dMth_mono fun _ => h _ _) q⟩
  | .mut id i es, _, _, _, _, _, hx, h => by
    simp only [wE]
    exact fun ⟨e, q⟩ => ⟨e, wEs_mono es hx (fun _ _ ⟨d, e, q⟩ => ⟨d, e, dMut_mono (fun _ _ => h _ _) q⟩) q⟩
  | .lc elt tg it cond own, _, _, _, _, _, hx, h => by
    simp only [wE]
    exact wI_mono it hx fun _ _ ⟨q1, W, q2, q3, q4⟩ => ⟨q1, W, q2, q3, fun acc w => h _ _ (q4 acc w)⟩
  | .fld a c j, _, _, _, _, _, hx, h => by simp only [wE]; exact wE_mono a hx fun _ _ => useR_mono fun _ ⟨fs, z, e, e2, q⟩ => ⟨fs, z, e, e2, h _ _ q⟩
  | .appn c f es, _, _, _, _, _, hx, h => by
    simp only [wE]
    exact wAs_mono es hx fun _ _ => useAll_mono fun _ q => ⟨q.1, Γ.pmono _ _ _ _ _ _ (fun _ => h _ _) (fun _ _ => hx _ _ _) q.2⟩
  | .apps c f a b, _, _, _, _, _, hx, h => by
    simp only [wE]
    exact wE_mono a hx fun _ _ => wE_mono b hx fun _ _ => useAll_mono fun _ q => ⟨q.1, q.2.1, Γ.pmono _ _ _ _ _ _ (fun _ => h _ _) (fun _ _ => hx _ _ _) q.2.2⟩
  | .appc c f a b, _, _, _, _, _, hx, h => by
    simp only [wE]
    exact wE_mono a hx fun _ _ => wE_mono b hx fun _ _ => useAll_mono fun _ ⟨fs, y, e, l, q⟩ => ⟨fs, y, e, l, Γ.pmono _ _ _ _ _ _ (fun _ ⟨k, e, q⟩ => ⟨k, e, h _ _ q⟩) (fun _ _ z => z) q⟩
  | .propm c f a, _, _, _, _, _, hx, h => by
    simp only [wE]
    exact wE_mono a hx fun _ _ => useAll_mono fun _ q => ⟨q.1, q.2.1, Γ.pmono _ _ _ _ _ _ (fun _ => h _ _) (fun _ _ z => z) q.2.2⟩
  | .cm c f es, _, _, _, _, _, hx, h => by
    simp only [wE]
    exact wAs_mono es hx fun _ _ => useAll_mono fun _ q => ⟨q.1, Γ.pmono _ _ _ _ _ _ (fun _ => h _ _) (fun _ _ => hx _ _ _) q.2⟩
  | .cmk c j es, _, _, _, _, _, hx, h => by
    simp only [wE]
    exact wAs_mono es hx fun _ _ ⟨l1, l2, q⟩ => ⟨l1, l2, useAll_mono (fun _ => Γ.pmono _ _ _ _ _ _ (fun _ => h _ _) (fun _ _ => hx _ _ _)) q⟩
  | .appv i c f es, _, _, _, _, _, hx, h => by
    simp only [wE]
    exact fun ⟨e, q⟩ => ⟨e, wAs_mono es hx (fun _ _ => useAll_mono fun _ q => ⟨q.1, Γ.pmono _ _ _ _ _ _ (fun _ => h _ _) (fun _ _ => hx _ _ _) q.2⟩) q⟩
  | .appb op c f a b, _, _, _, _, _, hx, h => by
    simp only [wE]
    exact wE_mono a hx fun _ _ => wE_mono b hx fun _ _ => useAll_mono fun _ q => ⟨q.1, q.2.1, Γ.pmono _ _ _ _ _ _ (fun _ => h _ _) (fun _ _ => hx _ _ _) q.2.2⟩
  | .fstr es, _, _, _, _, _, hx, h => by
    simp only [wE]
    exact wF_mono es hx fun _ _ => h _ _
  | .ownd a, _, _, _, _, _, hx, h => by simp only [wE]; exact wE_mono a hx fun _ _ ⟨xs, e, q⟩ => ⟨xs, e, h _ _ q⟩
  | .isc c a, _, _, _, _, _, hx, h => by simp only [wE]; exact wE_mono a hx fun _ _ => useR_mono fun _ ⟨i, e, q⟩ => ⟨i, e, h _ _ q⟩
  | .appq ne c f a b, _, _, _, _, _, hx, h => by
    simp only [wE]
    exact wE_mono a hx fun _ _ => wE_mono b hx fun _ _ => useAll_mono fun _ q => ⟨q.1, q.2.1, Γ.pmono _ _ _ _ _ _ (fun _ ⟨k, e, q⟩ => ⟨k, e, h _ _ q⟩) (fun _ _ z => z) q.2.2⟩
  | .lc2 elt tg it cond tg1 it1 cond1 own ow1, _, _, _, _, _, hx, h => by
    simp only [wE]
    exact wI_mono it hx fun _ _ ⟨q1, W, q2, q3, q4⟩ => ⟨q1, W, q2, q3, fun acc w => h _ _ (q4 acc w)⟩
  | .lenm c f a, _, _, _, _, _, hx, h => by
    simp only [wE]
    exact wE_mono a hx fun _ _ => useAll_mono fun _ q => ⟨q.1, q.2.1, Γ.pmono _ _ _ _ _ _ (fun _ ⟨k, e, e2, q⟩ => ⟨k, e, e2, h _ _ q⟩) (fun _ _ z => z) q.2.2⟩
  | .appe c f a b, _, _, _, _, _, hx, h => by
    simp only [wE]
    exact wE_mono a hx fun _ _ => wE_mono b hx fun _ _ => useAll_mono fun _ q => ⟨q.1, q.2.1, Γ.pmono _ _ _ _ _ _ (fun _ ⟨k, e, q⟩ => ⟨k, e, h _ _ q⟩) (fun _ _ z => z) q.2.2⟩
  | .newk c j es, _, _, _, _, _, hx, h => by
    simp only [wE]
    exact wAs_mono es hx fun _ _ ⟨q1, q2, q⟩ => ⟨q1, q2, useAll_mono (fun _ q => Γ.pmono _ _ _ _ _ _ (fun _ q => h _ _ q) (fun c l z => hx _ _ _ z) q) q⟩
  | .lstR a, _, _, _, _, _, hx, h => by simp only [wE]; exact wE_mono a hx fun _ _ => useR_mono fun _ ⟨j, e, e2, q⟩ => ⟨j, e, e2, h _ _ q⟩
  | .tupR a, _, _, _, _, _, hx, h => by simp only [wE]; exact wE_mono a hx fun _ _ => useR_mono fun _ ⟨j, e, e2, q⟩ => ⟨j, e, e2, h _ _ q⟩
  | .appm c f o es, _, _, _, _, _, hx, h => by
    simp only [wE]
    exact wE_mono o hx fun _ _ => useR_mono fun _ ⟨e, q⟩ => ⟨e, wAs_mono es hx (fun _ _ => useAll_mono fun _ q => ⟨q.1, Γ.pmono _ _ _ _ _ _ (fun _ => h _ _) (fun _ _ => hx _ _ _) q.2⟩) q⟩
  | .appk c j o es, _, _, _, _, _, hx, h => by
    simp only [wE]
    exact wE_mono o hx fun _ _ => useR_mono fun _ ⟨e, q⟩ => ⟨e, wAs_mono es hx (fun _ _ ⟨l1, l2, q⟩ => ⟨l1, l2, useAll_mono (fun _ => Γ.pmono _ _ _ _ _ _ (fun _ => h _ _) (fun _ _ => hx _ _ _)) q⟩) q⟩
theorem wT_mono : ∀ (e : E) {x x' : Xr} {ρ : Rho} {Q Q' : Bool → Rho → Prop}, (∀ c l ρ, x c l ρ → x' c l ρ) → (∀ r ρ', Q r ρ' → Q' r ρ') → wT Γ x e ρ Q → wT Γ x' e ρ Q'
  | .not a, _, _, _, _, _, hx, h => by simp only [wT]; exact wT_mono a hx fun _ _ => h _ _
  | .and a b, _, _, _, _, _, hx, h => by simp only [wT]; exact wT_mono a hx fun _ _ => ite_mono (wT_mono b hx h) (h _ _)
  | .or a b, _, _, _, _, _, hx, h => by simp only [wT]; exact wT_mono a hx fun _ _ => ite_mono (h _ _) (wT_mono b hx h)
  | .ite c a b, _, _, _, _, _, hx, h => by simp only [wT]; exact wT_mono c hx fun _ _ => ite_mono (wT_mono a hx h) (wT_mono b hx h)
  | .cmp op a b, _, _, _, _, _, hx, h => by simp only [wT]; exact wE_mono a hx fun _ _ => wE_mono b hx fun _ _ => useR_mono fun _ => useR_mono fun _ => dCmp_mono fun _ => h _ _
  | .cmp2 _ _ a b c, _, _, _, _, _, hx, h => by
    simp only [wT]
    exact wE_mono a hx fun _ _ => wE_mono b hx fun _ _ => useR_mono fun _ => useR_mono fun _ => dCmp_mono fun _ => ite_mono (wE_mono c hx fun _ _ => useR_mono fun _ => useR_mono fun _ => dCmp_mono fun _ => h _ _) (h _ _)
  | .int i, _, _, _, _, _, hx, h => by simp only [wT]; exact wE_mono _ hx fun _ _ => useR_mono fun _ ⟨i, e, q⟩ => ⟨i, e, h _ _ q⟩
  | .bl i, _, _, _, _, _, hx, h => by simp only [wT]; exact wE_mono _ hx fun _ _ => useR_mono fun _ ⟨i, e, q⟩ => ⟨i, e, h _ _ q⟩
  | .non, _, _, _, _, _, hx, h => by simp only [wT]; exact wE_mono _ hx fun _ _ => useR_mono fun _ ⟨i, e, q⟩ => ⟨i, e, h _ _ q⟩
  | .str i, _, _, _, _, _, hx, h => by simp only [wT]; exact wE_mono _ hx fun _ _ => useR_mono fun _ ⟨i, e, q⟩ => ⟨i, e, h _ _ q⟩
  | .var i, _, _, _, _, _, hx, h => by simp only [wT]; exact wE_mono (.var i) hx fun _ _ => useR_mono fun _ ⟨i, e, q⟩ => ⟨i, e, h _ _ q⟩
  | .glb g, _, _, _, _, _, hx, h => by simp only [wT]; exact wE_mono (.glb g) hx fun _ _ => useR_mono fun _ ⟨i, e, q⟩ => ⟨i, e, h _ _ q⟩
  | .bin op a b, _, _, _, _, _, hx, h => by simp only [wT]; exact wE_mono (.bin op a b) hx fun _ _ => useR_mono fun _ ⟨i, e, q⟩ => ⟨i, e, h _ _ q⟩
  | .neg a, _, _, _, _, _, hx, h => by simp only [wT]; exact wE_mono (.neg a) hx fun _ _ => useR_mono fun _ ⟨i, e, q⟩ => ⟨i, e, h _ _ q⟩
  | .tup es, _, _, _, _, _, hx, h => by simp only [wT]; exact wE_mono (.tup es) hx fun _ _ => useR_mono fun _ ⟨i, e, q⟩ => ⟨i, e, h _ _ q⟩
  | .lst es, _, _, _, _, _, hx, h => by simp only [wT]; exact wE_mono (.lst es) hx fun _ _ => useR_mono fun _ ⟨i, e, q⟩ => ⟨i, e, h _ _ q⟩
  | .dct0, _, _, _, _, _, hx, h => by simp only [wT]; exact wE_mono .dct0 hx fun _ _ => useR_mono fun _ ⟨i, e, q⟩ => ⟨i, e, h _ _ q⟩
  | .dct1 a b, _, _, _, _, _, hx, h => by simp only [wT]; exact wE_mono (.dct1 a b) hx fun _ _ => useR_mono fun _ ⟨i, e, q⟩ => ⟨i, e, h _ _ q⟩
  | .ix a b, _, _, _, _, _, hx, h => by simp only [wT]; exact wE_mono (.ix a b) hx fun _ _ => useR_mono fun _ ⟨i, e, q⟩ => ⟨i, e, h _ _ q⟩
  | .slL a b, _, _, _, _, _, hx, h => by simp only [wT]; exact wE_mono (.slL a b) hx fun _ _ => useR_mono fun _ ⟨i, e, q⟩ => ⟨i, e, h _ _ q⟩
  | .slU a b, _, _, _, _, _, hx, h => by simp only [wT]; exact wE_mono (.slU a b) hx fun _ _ => useR_mono fun _ ⟨i, e, q⟩ => ⟨i, e, h _ _ q⟩
  | .slLU a b c, _, _, _, _, _, hx, h => by simp only [wT]; exact wE_mono (.slLU a b c) hx fun _ _ => useR_mono fun _ ⟨i, e, q⟩ => ⟨i, e, h _ _ q⟩
  | .slR a, _, _, _, _, _, hx, h => by simp only [wT]; exact wE_mono (.slR a) hx fun _ _ => useR_mono fun _ ⟨i, e, q⟩ => ⟨i, e, h _ _ q⟩
  | .isi a T, _, _, _, _, _, hx, h => by simp only [wT]; exact wE_mono (.isi a T) hx fun _ _ => useR_mono fun _ ⟨i, e, q⟩ => ⟨i, e, h _ _ q⟩
  | .call f es, _, _, _, _, _, hx, h => by simp only [wT]; exact wE_mono (.call f es) hx fun _ _ => useR_mono fun _ ⟨i, e, q⟩ => ⟨i, e, h _ _ q⟩
  | .callk f es ks, _, _, _, _, _, hx, h => by simp only [wT]; exact wE_mono (.callk f es ks) hx fun _ _ => useR_mono fun _ ⟨i, e, q⟩ => ⟨i, e, h _ _ q⟩
  | .blt id es, _, _, _, _, _, hx, h => by simp only [wT]; exact wE_mono (.blt id es) hx fun _ _ => useR_mono fun _ ⟨i, e, q⟩ => ⟨i, e, h _ _ q⟩
  | .mth id o es, _, _, _, _, _, hx, h => by simp only [wT]; exact wE_mono (.mth id o es) hx fun _ _ => useR_mono fun _ ⟨i, e, q⟩ => ⟨i, e, h _ _ q⟩
  | .mut id i es, _, _, _, _, _, hx, h => by simp only [wT]; exact wE_mono (.mut id i es) hx fun _ _ => useR_mono fun _ ⟨i, e, q⟩ => ⟨i, e, h _ _ q⟩
  | .lc a b c d e, _, _, _, _, _, hx, h => by simp only [wT]; exact wE_mono (.lc a b c d e) hx fun _ _ => useR_mono fun _ ⟨i, e, q⟩ => ⟨i, e, h _ _ q⟩
  | .fld a b c, _, _, _, _, _, hx, h => by simp only [wT]; exact wE_mono (.fld a b c) hx fun _ _ => useR_mono fun _ ⟨i, e, q⟩ => ⟨i, e, h _ _ q⟩
  | .appn a b c, _, _, _, _, _, hx, h => by simp only [wT]; exact wE_mono (.appn a b c) hx fun _ _ => useR_mono fun _ ⟨i, e, q⟩ => ⟨i, e, h _ _ q⟩
  | .apps a b c d, _, _, _, _, _, hx, h => by simp only [wT]; exact wE_mono (.apps a b c d) hx fun _ _ => useR_mono fun _ ⟨i, e, q⟩ => ⟨i, e, h _ _ q⟩
  | .appc a b c d, _, _, _, _, _, hx, h => by simp only [wT]; exact wE_mono (.appc a b c d) hx fun _ _ => useR_mono fun _ ⟨i, e, q⟩ => ⟨i, e, h _ _ q⟩
  | .propm a b c, _, _, _, _, _, hx, h => by simp only [wT]; exact wE_mono (.propm a b c) hx fun _ _ => useR_mono fun _ ⟨i, e, q⟩ => ⟨i, e, h _ _ q⟩
  | .cm a b c, _, _, _, _, _, hx, h => by simp only [wT]; exact wE_mono (.cm a b c) hx fun _ _ => useR_mono fun _ ⟨i, e, q⟩ => ⟨i, e, h _ _ q⟩
  | .cmk a b c, _, _, _, _, _, hx, h => by simp only [wT]; exact wE_mono (.cmk a b c) hx fun _ _ => useR_mono fun _ ⟨i, e, q⟩ => ⟨i, e, h _ _ q⟩
  | .appv a b c d, _, _, _, _, _, hx, h => by simp only [wT]; exact wE_mono (.appv a b c d) hx fun _ _ => useR_mono fun _ ⟨i, e, q⟩ => ⟨i, e, h _ _ q⟩
  | .appb a b c d e, _, _, _, _, _, hx, h => by simp only [wT]; exact wE_mono (.appb a b c d e) hx fun _ _ => useR_mono fun _ ⟨i, e, q⟩ => ⟨i, e, h _ _ q⟩
  | .ownd a, _, _, _, _, _, hx, h => by simp only [wT]; exact wE_mono (.ownd a) hx fun _ _ => useR_mono fun _ ⟨i, e, q⟩ => ⟨i, e, h _ _ q⟩
  | .isc a b, _, _, _, _, _, hx, h => by simp only [wT]; exact wE_mono (.isc a b) hx fun _ _ => useR_mono fun _ ⟨i, e, q⟩ => ⟨i, e, h _ _ q⟩
  | .appq a b c d e, _, _, _, _, _, hx, h => by simp only [wT]; exact wE_mono (.appq a b c d e) hx fun _ _ => useR_mono fun _ ⟨i, e, q⟩ => ⟨i, e, h _ _ q⟩
  | .lc2 a b c d e f g i j, _, _, _, _, _, hx, h => by simp only [wT]; exact wE_mono (.lc2 a b c d e f g i j) hx fun _ _ => useR_mono fun _ ⟨i, e, q⟩ => ⟨i, e, h _ _ q⟩
  | .fstr a, _, _, _, _, _, hx, h => by simp only [wT]; exact wE_mono (.fstr a) hx fun _ _ => useR_mono fun _ ⟨i, e, q⟩ => ⟨i, e, h _ _ q⟩
  | .lenm a b c, _, _, _, _, _, hx, h => by simp only [wT]; exact wE_mono (.lenm a b c) hx fun _ _ => useR_mono fun _ ⟨i, e, q⟩ => ⟨i, e, h _ _ q⟩
  | .appe a b c d, _, _, _, _, _, hx, h => by simp only [wT]; exact wE_mono (.appe a b c d) hx fun _ _ => useR_mono fun _ ⟨i, e, q⟩ => ⟨i, e, h _ _ q⟩
  | .newk a b c, _, _, _, _, _, hx, h => by simp only [wT]; exact wE_mono (.newk a b c) hx fun _ _ => useR_mono fun _ ⟨i, e, q⟩ => ⟨i, e, h _ _ q⟩
  | .lstR a, _, _, _, _, _, hx, h => by simp only [wT]; exact wE_mono (.lstR a) hx fun _ _ => useR_mono fun _ ⟨i, e, q⟩ => ⟨i, e, h _ _ q⟩
  | .tupR a, _, _, _, _, _, hx, h => by simp only [wT]; exact wE_mono (.tupR a) hx fun _ _ => useR_mono fun _ ⟨i, e, q⟩ => ⟨i, e, h _ _ q⟩
  | .appm a b c d, _, _, _, _, _, hx, h => by simp only [wT]; exact wE_mono (.appm a b c d) hx fun _ _ => useR_mono fun _ ⟨i, e, q⟩ => ⟨i, e, h _ _ q⟩
  | .appk a b c d, _, _, _, _, _, hx, h => by simp only [wT]; exact wE_mono (.appk a b c d) hx fun _ _ => useR_mono fun _ ⟨i, e, q⟩ => ⟨i, e, h _ _ q⟩
theorem wEs_mono : ∀ (e : Es) {x x' : Xr} {ρ : Rho} {Q Q' : List D → Rho → Prop}, (∀ c l ρ, x c l ρ → x' c l ρ) → (∀ r ρ', Q r ρ' → Q' r ρ') → wEs Γ x e ρ Q → wEs Γ x' e ρ Q'
  | .nil, _, _, _, _, _, hx, h => by simp only [wEs]; exact h _ _
  | .cons e r, _, _, _, _, _, hx, h => by simp only [wEs]; exact wE_mono e hx fun _ _ => escR_mono fun _ _ => wEs_mono r hx fun _ _ => h _ _
  | .star e r, _, _, _, _, _, hx, h => by simp only [wEs]; exact wE_mono e hx fun _ _ => useR_mono fun _ ⟨xs, e, q⟩ => ⟨xs, e, wEs_mono r hx (fun _ _ => h _ _) q⟩
theorem wAs_mono : ∀ (e : Es) {x x' : Xr} {ρ : Rho} {Q Q' : List Rv → Rho → Prop}, (∀ c l ρ, x c l ρ → x' c l ρ) → (∀ r ρ', Q r ρ' → Q' r ρ') → wAs Γ x e ρ Q → wAs Γ x' e ρ Q'
  | .nil, _, _, _, _, _, hx, h => by simp only [wAs]; exact h _ _
  | .cons e r, _, _, _, _, _, hx, h => by simp only [wAs]; exact wE_mono e hx fun _ _ => wAs_mono r hx fun _ _ => h _ _
  | .star e r, _, _, _, _, _, hx, h => by simp only [wAs]; exact id
theorem wF_mono : ∀ (e : Es) {x x' : Xr} {acc : Str} {ρ : Rho} {Q Q' : Str → Rho → Prop}, (∀ c l ρ, x c l ρ → x' c l ρ) → (∀ r ρ', Q r ρ' → Q' r ρ') → wF Γ x e acc ρ Q → wF Γ x' e acc ρ Q'
  | .nil, _, _, _, _, _, _, hx, h => by simp only [wF]; exact h _ _
  | .cons e r, _, _, _, _, _, _, hx, h => by simp only [wF]; exact wE_mono e hx fun _ _ => useR_mono fun _ ⟨y, e, l, q⟩ => ⟨y, e, l, wF_mono r hx (fun _ _ => h _ _) q⟩
  | .star e r, _, _, _, _, _, _, hx, h => by simp only [wF]; exact id
theorem wI_mono : ∀ (e : I) {x x' : Xr} {ρ : Rho} {Q Q' : List D → Rho → Prop}, (∀ c l ρ, x c l ρ → x' c l ρ) → (∀ r ρ', Q r ρ' → Q' r ρ') → wI Γ x e ρ Q → wI Γ x' e ρ Q'
  | .ov e, _, _, _, _, _, hx, h => by simp only [wI]; exact wE_mono e hx fun _ _ => escR_mono fun _ _ ⟨ds, e, q⟩ => ⟨ds, e, h _ _ q⟩
  | .rng a, _, _, _, _, _, hx, h => by simp only [wI]; exact wE_mono a hx fun _ _ => useR_mono fun _ ⟨j, e, z, q⟩ => ⟨j, e, z, h _ _ q⟩
  | .rng2 a b, _, _, _, _, _, hx, h => by simp only [wI]; exact wE_mono a hx fun _ _ => wE_mono b hx fun _ _ => useR_mono fun _ => useR_mono fun _ ⟨i, j, e, f, z, q⟩ => ⟨i, j, e, f, z, h _ _ q⟩
  | .zip a b, _, _, _, _, _, hx, h => by simp only [wI]; exact wE_mono a hx fun _ _ => escR_mono fun _ _ => wE_mono b hx fun _ _ => escR_mono fun _ _ ⟨ds, es, e, f, q⟩ => ⟨ds, es, e, f, h _ _ q⟩
  | .enm a, _, _, _, _, _, hx, h => by simp only [wI]; exact wE_mono a hx fun _ _ => escR_mono fun _ _ ⟨ds, e, q⟩ => ⟨ds, e, h _ _ q⟩
end
end DL

set_option Elab.async false
set_option linter.all false
set_option maxRecDepth 100000
set_option maxHeartbeats 4000000
namespace DL
open PySem L2
theorem strOk_iff {x : Str} : PyData.strOk x = true ↔ ∀ c ∈ x.cps.toList, c < 0x110000 := by
  obtain ⟨⟨l⟩⟩ := x
  unfold PyData.strOk
  simp [Array.all_eq_true_iff_forall_mem]
theorem SOk.mk {x : Str} (h : x.length ≤ sizeLine) (k : ∀ c ∈ x.cps.toList, c < 0x110000) : SOk x := ⟨h, strOk_iff.mpr k⟩
theorem SOk.lt {x : Str} (h : SOk x) : ∀ c ∈ x.cps.toList, c < 0x110000 := strOk_iff.mp h.2
theorem SOk.app {x y : Str} (h : SOk x) (k : SOk y) (l : x.length + y.length ≤ sizeLine) : SOk (x ++ y) := by
  refine .mk (by rw [strLen_append]; exact l) fun c hc => ?_
  have e : (x ++ y).cps.toList = x.cps.toList ++ y.cps.toList := by
    show (x.cps ++ y.cps).toList = _
    simp
  rw [e] at hc
  exact (List.mem_append.mp hc).elim (h.lt c) (k.lt c)
theorem SOk.one {x : Str} (h : SOk x) {c : Nat} (m : c ∈ x.cps.toList) : SOk ⟨#[c]⟩ := by
  refine .mk (by show 1 ≤ sizeLine; decide) fun d hd => ?_
  have e : d = c := by simpa using hd
  rw [e]; exact h.lt c m
theorem SOk.cut {x : Str} (h : SOk x) (lo hi : Option Int) : SOk (cutS x lo hi) := by
  refine .mk (Nat.le_trans ?_ h.1) fun d hd => ?_
  · show (List.toArray _).size ≤ x.cps.size
    rw [List.size_toArray, List.length_take, List.length_drop, Array.length_toList]
    omega
  · have e : d ∈ (x.cps.toList.drop (HT.sIx x.length 0 lo)).take (HT.sIx x.length x.length hi - HT.sIx x.length 0 lo) := by simpa [cutS] using hd
    exact h.lt d (List.mem_of_mem_drop (List.mem_of_mem_take e))
theorem foldl_app_toList (l : List (Array Nat)) : ∀ (a : Array Nat), (l.foldl (· ++ ·) a).toList = a.toList ++ (l.map Array.toList).flatten := by
  induction l with
  | nil => intro a; simp
  | cons b l ih => intro a; rw [List.foldl_cons, ih]; simp
theorem SOk.mul {x : Str} (h : SOk x) {n : Int} (l : (Txt.mul x n).length ≤ sizeLine) : SOk (Txt.mul x n) := by
  refine .mk l fun d hd => ?_
  unfold Txt.mul at hd
  split at hd
  · simp [Str.empty] at hd
  · split at hd
    · exact h.lt d hd
    · have e : d ∈ (List.foldl (· ++ ·) #[] (List.replicate n.toNat x.cps)).toList := hd
      rw [foldl_app_toList, List.map_replicate] at e
      simp only [List.nil_append, List.mem_flatten, List.mem_replicate] at e
      obtain ⟨q, ⟨_, rfl⟩, hq⟩ := e
      exact h.lt d hq
theorem join_lt {x : Str} (h : ∀ c ∈ x.cps.toList, c < 0x110000) : ∀ (ys : List Str), (∀ y ∈ ys, ∀ c ∈ y.cps.toList, c < 0x110000) → ∀ c ∈ (Str.join x ys).cps.toList, c < 0x110000
  | [], _, c, hc => by simp [Str.join, Str.empty] at hc
  | [y], k, c, hc => k y (by simp) c hc
  | y :: z :: r, k, c, hc => by
    have ih := join_lt h (z :: r) (fun w hw => k w (List.mem_cons_of_mem _ hw))
    have e : (Str.join x (y :: z :: r)).cps.toList = y.cps.toList ++ x.cps.toList ++ (Str.join x (z :: r)).cps.toList := by
      show ((y.cps ++ x.cps) ++ (Str.join x (z :: r)).cps).toList = _
      simp
    rw [e] at hc
    rcases List.mem_append.mp hc with hc | hc
    · exact (List.mem_append.mp hc).elim (k y (by simp) c) (h c)
    · exact ih c hc
theorem lit_lt (x : Str) (h : (x.cps.toList.all (· < 0x110000)) = true) : ∀ c ∈ x.cps.toList, c < 0x110000 := fun c hc => of_decide_eq_true (List.all_eq_true.mp h c hc)
theorem reprChar_lt {q c : Nat} (hc : c < 0x110000) : ∀ d ∈ Builtin.Str.reprChar q c, d < 0x110000 := by
  have hx : ∀ (l : List Char) (w : Nat) d, d ∈ List.replicate (w - l.length) 48 ++ l.map Char.toNat → d < 0x110000 := fun l w d hd => by
    rcases List.mem_append.mp hd with hd | hd
    · have := (List.mem_replicate.mp hd).2; omega
    · obtain ⟨ch, _, rfl⟩ := List.mem_map.mp hd
      have := ch.valid
      simp only [UInt32.isValidChar, Nat.isValidChar] at this
      show ch.val.toNat < _
      omega
  intro d hd
  unfold Builtin.Str.reprChar at hd
  simp only at hd
  split at hd
  · simp only [List.mem_cons, List.not_mem_nil, or_false] at hd; omega
  · split at hd
    · simp only [List.mem_cons, List.not_mem_nil, or_false] at hd; omega
    · split at hd
      · simp only [List.mem_cons, List.not_mem_nil, or_false] at hd; omega
      · split at hd
        · simp only [List.mem_cons, List.not_mem_nil, or_false] at hd; omega
        · split at hd
          · simp only [List.mem_cons, List.not_mem_nil, or_false] at hd; omega
          · split at hd
            · rcases List.mem_append.mp hd with hd | hd
              · simp only [List.mem_cons, List.not_mem_nil, or_false] at hd; omega
              · exact hx (Nat.toDigits 16 c) _ d (by simpa using hd)
            · split at hd
              · rcases List.mem_append.mp hd with hd | hd
                · simp only [List.mem_cons, List.not_mem_nil, or_false] at hd; omega
                · exact hx (Nat.toDigits 16 c) _ d (by simpa using hd)
              · rcases List.mem_append.mp hd with hd | hd
                · simp only [List.mem_cons, List.not_mem_nil, or_false] at hd; omega
                · exact hx (Nat.toDigits 16 c) _ d (by simpa using hd)
theorem reprText_lt {x : Str} (h : ∀ c ∈ x.cps.toList, c < 0x110000) : ∀ c ∈ (reprText x).cps.toList, c < 0x110000 := by
  have hq : reprQuote x < 0x110000 := by unfold reprQuote; split <;> decide
  have fold : ∀ (l : List Nat) (a : Array Nat), (∀ c ∈ l, c < 0x110000) → (∀ c ∈ a.toList, c < 0x110000) → ∀ c ∈ (l.foldl (fun out c => out ++ (Builtin.Str.reprChar (reprQuote x) c).toArray) a).toList, c < 0x110000 := by
    intro l
    induction l with
    | nil => intro a _ ha; exact ha
    | cons d l ih =>
      intro a hl ha
      rw [List.foldl_cons]
      refine ih _ (fun c hc => hl c (List.mem_cons_of_mem _ hc)) fun c hc => ?_
      simp only [Array.toList_append, List.mem_append] at hc
      exact hc.elim (ha c) (reprChar_lt (hl d (by simp)) c)
  intro c hc
  unfold reprText at hc
  simp only [Array.toList_push, List.mem_append, List.mem_singleton] at hc
  rcases hc with hc | rfl
  · rw [← Array.foldl_toList] at hc
    exact fold _ _ h (fun d hd => by
      have e : d = reprQuote x := by simpa using hd
      rw [e]; exact hq) c hc
  · exact hq
theorem app_lt {x y : Str} (h : ∀ c ∈ x.cps.toList, c < 0x110000) (k : ∀ c ∈ y.cps.toList, c < 0x110000) : ∀ c ∈ (x ++ y).cps.toList, c < 0x110000 := by
  intro c hc
  have e : (x ++ y).cps.toList = x.cps.toList ++ y.cps.toList := by
    show (x.cps ++ y.cps).toList = _
    simp
  rw [e] at hc
  exact (List.mem_append.mp hc).elim (h c) (k c)
theorem textFrom_lt : ∀ (ts : List Str) (k : Nat) (acc : Str), (∀ c ∈ acc.cps.toList, c < 0x110000) → (∀ t ∈ ts, ∀ c ∈ t.cps.toList, c < 0x110000) → ∀ c ∈ (textFrom k acc ts).cps.toList, c < 0x110000
  | [], _, _, h, _ => h
  | t :: ts, k, acc, h, q => textFrom_lt ts (k + 1) _ (app_lt (app_lt h (by split <;> exact lit_lt _ (by decide +kernel))) (q t (by simp))) fun t' h' => q t' (List.mem_cons_of_mem _ h')
theorem toString_lt (i : Int) : ∀ c ∈ (toString i : Str).cps.toList, c < 0x110000 := by
  intro c hc
  rw [show ((toString i : String) : Str) = Str.ofString (toString i) from rfl, Str.ofString_eq_toList] at hc
  have hc' : c ∈ (toString i).toList.map Char.toNat := by simpa using hc
  obtain ⟨ch, _, rfl⟩ := List.mem_map.mp hc'
  have := ch.valid
  simp only [UInt32.isValidChar, Nat.isValidChar] at this
  show ch.val.toNat < _
  omega
end DL

set_option Elab.async false
set_option linter.all false
set_option maxRecDepth 100000
set_option maxHeartbeats 4000000
namespace DL
open PySem L2
/-- what is free is not barred -/
def FreshM (M : Addr → Prop) (H : Hp) : Prop := ∀ p, H p = none → ¬ M p
/-- what is handed on: some value, behind some growth of the heap, that stands for the data -/
def Out (R : RP) (M : Addr → Prop) (H : Hp) (Q : VK) (z : D) : Prop := ∀ v H', Same H H' → Rep R M H' v z → Q v H'
section
variable {R : RP} {X : Cx} {M : Addr → Prop} {H : Hp} {Q : VK}
theorem Out.now {z : D} {v : V} (h : Out R M H Q z) (r : Rep R M H v z) : Q v H := h v H (Same.refl _) r
theorem Out.lst (h : Out R M H Q (.lst ds)) {xs : List V} (f : FreshM M H) (r : RepAll R M H xs ds) (l : xs.length ≤ sizeLine) : ∀ p, H p = none → Q (.ref p) (upd H p (.lst xs)) := fun p hp =>
  h _ _ (Same.alloc hp) (.lst ⟨f p hp, upd_same⟩ l (r.keep (fun _ z => z) (.alloc hp)))
theorem Out.tup (h : Out R M H Q (.tup ds)) {xs : List V} (f : FreshM M H) (r : RepAll R M H xs ds) (l : xs.length ≤ sizeLine) : ∀ p, H p = none → Q (.ref p) (upd H p (.tup xs)) := fun p hp =>
  h _ _ (Same.alloc hp) (.tup (.inl ⟨f p hp, upd_same⟩) l (r.keep (fun _ z => z) (.alloc hp)))
def rBin (R : RP) (op : Operator) : R2 := fun x y H Q => ∃ M d e, FreshM M H ∧ Rdb R M H x d ∧ Rdb R M H y e ∧ dBin op d e (Out R M H Q)
theorem nil_of {xs : List V} {ds : List D} (r : RepAll R M H xs ds) : xs = [] ↔ ds = [] := by
  cases r with
  | nil => simp
  | cons => simp
theorem RepAll.rep_flat {xs : List V} {ds : List D} (r : RepAll R M H xs ds) : ∀ n : Nat, RepAll R M H (List.replicate n xs).flatten (List.replicate n ds).flatten
  | 0 => .nil
  | n + 1 => by
    rw [List.replicate_succ, List.replicate_succ, List.flatten_cons, List.flatten_cons]
    exact r.append (RepAll.rep_flat r n)
theorem op_bin {op : Operator} (hK : R.K = X.K) : OpR X (binaryOp op) (rBin R op) := by
  intro pins s σ H x y v u Q I rx ry h
  obtain ⟨M, d, e, fm, hx, hy, h⟩ := h
  unfold dBin at h
  split at h
  · rename_i i j
    cases hx.int; cases hy.int
    exact op_add pins s σ H _ _ v u Q I rx ry ⟨i, j, rfl, rfl, h.now (.int _)⟩
  · rename_i a b
    obtain ⟨rfl, l1⟩ := hx.str
    obtain ⟨rfl, l2⟩ := hy.str
    exact op_add_str pins s σ H _ _ v u Q I rx ry ⟨a, b, rfl, rfl, h.1, h.2.now (.str _ (l1.app l2 h.1))⟩
  · rename_i xs ys
    obtain ⟨a, vs, rfl, h1, l1, r1⟩ := hx.lst
    obtain ⟨b, ws, rfl, h2, l2, r2⟩ := hy.lst
    have hl : vs.length + ws.length ≤ sizeLine := by rw [r1.length, r2.length]; exact h.1
    exact op_cat pins s σ H _ _ v u Q I rx ry ⟨a, b, vs, ws, rfl, rfl, h1, h2, hl, h.2.lst fm (r1.append r2) (by rw [List.length_append]; exact hl)⟩
  · rename_i xs ys
    obtain ⟨a, vs, rfl, h1, l1, r1⟩ := hx.tup
    obtain ⟨b, ws, rfl, h2, l2, r2⟩ := hy.tup
    have hl : vs.length + ws.length ≤ sizeLine := by rw [r1.length, r2.length]; exact h.1
    refine op_catA pins s σ H _ _ v u Q I rx ry ⟨a, b, vs, ws, rfl, rfl, hK ▸ h1.sq, hK ▸ h2.sq, hl, fun e => ?_, fun _ e => ?_, fun _ _ => h.2.tup fm (r1.append r2) (by rw [List.length_append]; exact hl)⟩
    · have e2 := (nil_of r1).mp e
      subst e2
      exact h.2.now (.tup h2 l2 r2)
    · have e2 := (nil_of r2).mp e
      subst e2
      refine h.2.now ?_
      rw [List.append_nil]
      exact .tup h1 l1 r1
  · rename_i i j
    cases hx.int; cases hy.int
    exact op_sub pins s σ H _ _ v u Q I rx ry ⟨i, j, rfl, rfl, h.now (.int _)⟩
  · rename_i i j
    cases hx.int; cases hy.int
    exact op_mulW pins s σ H _ _ v u Q I rx ry ⟨i, j, rfl, rfl, h.1, h.2.now (.int _)⟩
  · rename_i xs j
    obtain ⟨a, vs, rfl, h1, l1, r1⟩ := hx.lst
    cases hy.int
    have hl : vs.length * j.toNat ≤ sizeLine := by rw [r1.length]; exact h.2.1
    refine op_rep pins s σ H _ _ v u Q I rx ry ⟨a, j, vs, rfl, rfl, h1, h.1.1, h.1.2, hl, h.2.2.lst fm (r1.rep_flat _) ?_⟩
    rw [List.length_flatten, List.map_replicate, List.sum_replicate_nat, Nat.mul_comm]; exact hl
  · rename_i a j
    obtain ⟨rfl, l1⟩ := hx.str
    cases hy.int
    obtain ⟨t, rfl⟩ := rx
    obtain ⟨t', rfl⟩ := ry
    exact SB.mul h.1 fun t2 k => ⟨.str _, H, I.tok k, ⟨_, rfl⟩, h.2.2.now (.str _ (l1.mul h.2.1))⟩
  · rename_i i j
    cases hx.int; cases hy.int
    exact op_fdiv pins s σ H _ _ v u Q I rx ry ⟨i, j, rfl, rfl, h.1, h.2.now (.int _)⟩
  · rename_i i j
    cases hx.int; cases hy.int
    exact op_mod pins s σ H _ _ v u Q I rx ry ⟨i, j, rfl, rfl, h.1, h.2.now (.int _)⟩
  · rename_i i j
    cases hx.int; cases hy.int
    exact op_pow pins s σ H _ _ v u Q I rx ry ⟨i, j, rfl, rfl, h.1, h.2.now (.int _)⟩
  · exact h.elim

/-! ### comparisons -/
mutual
theorem Rep.dp (hK : R.K = X.K) : ∀ {v : V} {d : D}, Rep R M H v d → d.plain = true → Dp X.K H v d.py
  | _, _, .non, _ => .non
  | _, _, .bl b, _ => .bl b
  | _, _, .int i, _ => .int i
  | _, _, .str x _, _ => .str x
  | _, _, .lst h l r, p => .lst (SqL.of h.2) (RepAll.dp hK r p)
  | _, _, .tup h l r, p => .tup (hK ▸ h.sq) (RepAll.dp hK r p)
  | _, _, .dct .., p => by simp [D.plain] at p
  | _, _, .obj .., p => by simp [D.plain] at p
  | _, _, .atom n, p => by simp [D.plain] at p
theorem RepAll.dp (hK : R.K = X.K) : ∀ {v : List V} {d : List D}, RepAll R M H v d → D.plains d = true → DpAll X.K H v (D.pys d)
  | _, _, .nil, _ => .nil
  | _, _, .cons r t, p => by
    have q := Bool.and_eq_true_iff.mp (show (D.plain _ && D.plains _) = true from p)
    exact .cons (Rep.dp hK r q.1) (RepAll.dp hK t q.2)
end
theorem Rdb.dp (hK : R.K = X.K) {v : V} {d : D} (h : Rdb R M H v d) (p : d.plain = true) : Dp X.K H v d.py := by
  rcases h with h | ⟨a, rfl, h⟩
  · exact h.dp hK p
  · cases h with
    | lst h l r => exact .lst (SqL.of h) (r.dp hK p)
    | dct => simp [D.plain] at p
mutual
theorem Rep.canLay : ∀ {v : V} {d : D}, Rep R M H v d → d.plain = true → d.py.canLay0 = true
  | _, _, .non, _ => rfl
  | _, _, .bl _, _ => rfl
  | _, _, .int _, _ => rfl
  | _, _, .str _ h, _ => h.2
  | _, _, .lst _ _ r, p => by
    simp only [D.py, PyData.canLay0]
    exact RepAll.canLay r p
  | _, _, .tup _ _ r, p => by
    simp only [D.py, PyData.canLay0]
    exact RepAll.canLay r p
  | _, _, .dct .., p => by simp [D.plain] at p
  | _, _, .obj .., p => by simp [D.plain] at p
  | _, _, .atom _, p => by simp [D.plain] at p
theorem RepAll.canLay : ∀ {v : List V} {d : List D}, RepAll R M H v d → D.plains d = true → PyData.canLayAll0 (D.pys d) = true
  | _, _, .nil, _ => rfl
  | _, _, .cons r t, p => by
    have q := Bool.and_eq_true_iff.mp (show (D.plain _ && D.plains _) = true from p)
    simp only [D.pys, PyData.canLayAll0, Rep.canLay r q.1, RepAll.canLay t q.2, Bool.and_self]
end
theorem Rdb.canLay {v : V} {d : D} (h : Rdb R M H v d) (p : d.plain = true) : d.py.canLay0 = true := by
  rcases h with h | ⟨a, rfl, h⟩
  · exact h.canLay p
  · cases h with
    | lst h l r =>
      simp only [D.py, PyData.canLay0]
      exact r.canLay p
    | dct => simp [D.plain] at p
theorem Rdb.shaped {v : V} {d : D} (r : Rdb R M H v d) (h : d.shaped = true) : d.plain = true ∧ SeqAt.shaped d.py = true := by
  obtain ⟨p, q⟩ := Bool.and_eq_true_iff.mp h
  have q' := of_decide_eq_true q
  refine ⟨p, ?_⟩
  unfold SeqAt.shaped
  rw [r.canLay p, decide_eq_true (Nat.le_trans q' (by decide))]
  rfl
theorem pys_map (l : List D) : D.pys l = l.map D.py := by
  induction l with
  | nil => rfl
  | cons d l ih => rw [D.pys, ih]; rfl
theorem isNon_iff {v : V} {d : D} (h : Rdb R M H v d) (hat : ∀ n, R.atm n ≠ .non) : decide (v = .non) = isNonD d := by
  rcases h with h | ⟨a, rfl, h⟩
  · cases h <;> first | rfl | exact decide_eq_false (fun e => by cases e) | exact decide_eq_false (hat _)
  · cases h <;> rfl
theorem flat_rep {v : V} {d : D} (h : Rep R M H v d) (p : d.flat = true) : flatV v = true := by
  cases h <;> first | rfl | simp [D.flat] at p
theorem eqV_eqv {v w : V} {d e : D} (h : Rep R M H v d) (h' : Rep R M H w e) (p : d.flat = true) (q : e.flat = true) : eqV v w = d.eqv e := by
  cases h <;> first | (simp [D.flat] at p; done) | (cases h' <;> first | (simp [D.flat] at q; done) | rfl | (simp [eqV, D.eqv, D.py, PyData.eqv]; done) | (unfold D.eqv; simp only [D.py]; unfold PyData.eqv; rfl))
theorem inV_any {v : V} {d : D} (h : Rep R M H v d) (p : d.flat = true) : ∀ {vs : List V} {ds : List D}, RepAll R M H vs ds → ds.all D.flat = true → inV v vs = ds.any (fun z => z.eqv d) ∧ vs.all flatV = true
  | _, _, .nil, _ => ⟨rfl, rfl⟩
  | _, _, .cons (v := w) (d := e) r t, q => by
    have q' := Bool.and_eq_true_iff.mp (show (D.flat e && _) = true from q)
    obtain ⟨i1, i2⟩ := inV_any h p t q'.2
    refine ⟨?_, ?_⟩
    · unfold inV at i1 ⊢
      rw [List.any_cons, List.any_cons, i1, eqV_eqv r h q'.1 p]
    · rw [List.all_cons, flat_rep r q'.1, i2]; rfl
def rCmp (R : RP) (op : CmpOp) : R2 := fun x y H Q => ∃ M d e, Rdb R M H x d ∧ Rdb R M H y e ∧ dCmp op d e (fun b => Q (.bl b) H)
theorem op_cmp {op : CmpOp} (hK : R.K = X.K) (hu : X.A.units + 65 < cLine) (hat : ∀ n, R.atm n ≠ .non) : OpR X (compareOp op) (rCmp R op) := by
  intro pins s σ H x y v u Q I rx ry h
  obtain ⟨M, d, e, hx, hy, h⟩ := h
  have hu' : X.A.units + 64 < cLine := by omega
  unfold dCmp at h
  split at h
  · obtain ⟨p1, s1⟩ := hx.shaped h.1.1
    obtain ⟨p2, s2⟩ := hy.shaped h.1.2
    exact op_eqD hu' pins s σ H _ _ v u Q I rx ry ⟨_, _, hx.dp hK p1, hy.dp hK p2, s1, s2, h.2⟩
  · obtain ⟨p1, s1⟩ := hx.shaped h.1.1
    obtain ⟨p2, s2⟩ := hy.shaped h.1.2
    exact op_neD hu' pins s σ H _ _ v u Q I rx ry ⟨_, _, hx.dp hK p1, hy.dp hK p2, s1, s2, h.2⟩
  · cases hx.int; cases hy.int
    exact op_lt pins s σ H _ _ v u Q I rx ry ⟨_, _, rfl, rfl, h⟩
  · cases hx.int; cases hy.int
    exact op_le pins s σ H _ _ v u Q I rx ry ⟨_, _, rfl, rfl, h⟩
  · cases hx.int; cases hy.int
    exact op_gt pins s σ H _ _ v u Q I rx ry ⟨_, _, rfl, rfl, h⟩
  · cases hx.int; cases hy.int
    exact op_ge pins s σ H _ _ v u Q I rx ry ⟨_, _, rfl, rfl, h⟩
  · obtain ⟨rfl, _⟩ := hx.str
    obtain ⟨rfl, _⟩ := hy.str
    exact op_lt_str pins s σ H _ _ v u Q I rx ry ⟨_, _, rfl, rfl, h⟩
  · obtain ⟨rfl, _⟩ := hx.str
    obtain ⟨rfl, _⟩ := hy.str
    exact op_le_str pins s σ H _ _ v u Q I rx ry ⟨_, _, rfl, rfl, h⟩
  · obtain ⟨rfl, _⟩ := hx.str
    obtain ⟨rfl, _⟩ := hy.str
    exact op_gt_str pins s σ H _ _ v u Q I rx ry ⟨_, _, rfl, rfl, h⟩
  · obtain ⟨rfl, _⟩ := hx.str
    obtain ⟨rfl, _⟩ := hy.str
    exact op_ge_str pins s σ H _ _ v u Q I rx ry ⟨_, _, rfl, rfl, h⟩
  · cases hy.non
    exact op_isN pins s σ H _ _ v u Q I rx ry ⟨rfl, by rw [isNon_iff hx hat]; exact h⟩
  · cases hy.non
    exact op_notN pins s σ H _ _ v u Q I rx ry ⟨rfl, by rw [isNon_iff hx hat]; exact h⟩
  · obtain ⟨rfl, _⟩ := hx.str
    obtain ⟨rfl, _⟩ := hy.str
    exact op_in_str pins s σ H _ _ v u Q I rx ry ⟨_, _, rfl, rfl, h⟩
  · obtain ⟨rfl, _⟩ := hx.str
    obtain ⟨rfl, _⟩ := hy.str
    exact op_notin_str pins s σ H _ _ v u Q I rx ry ⟨_, _, rfl, rfl, h⟩
  · rename_i ys
    obtain ⟨p1, s1⟩ := hx.shaped h.1.1
    obtain ⟨p2, s2⟩ := hy.shaped h.1.2
    refine op_inD hu pins s σ H _ _ v u Q I rx ry ⟨_, _, hx.dp hK p1, hy.dp hK p2, s1, s2, ?_⟩
    rw [pys_map, List.any_map]
    exact h.2
  · rename_i ys
    obtain ⟨p1, s1⟩ := hx.shaped h.1.1
    obtain ⟨p2, s2⟩ := hy.shaped h.1.2
    refine op_notInD hu pins s σ H _ _ v u Q I rx ry ⟨_, _, hx.dp hK p1, hy.dp hK p2, s1, s2, ?_⟩
    rw [pys_map, List.any_map]
    exact h.2
  · rename_i ys
    obtain ⟨a, ws, rfl, h1, l1, r1⟩ := hy.tup
    rcases hx with hx | ⟨b, rfl, hx⟩
    · obtain ⟨e1, e2⟩ := inV_any hx h.1.1 r1 h.1.2
      exact op_in_seq pins s σ H _ _ v u Q I rx ry ⟨a, ws, rfl, .inr (hK ▸ h1.sq), flat_rep hx h.1.1, e2, by rw [e1]; exact h.2⟩
    · cases hx <;> simp [D.flat] at h
  · rename_i ys
    obtain ⟨a, ws, rfl, h1, l1, r1⟩ := hy.tup
    rcases hx with hx | ⟨b, rfl, hx⟩
    · obtain ⟨e1, e2⟩ := inV_any hx h.1.1 r1 h.1.2
      exact op_notIn_seq pins s σ H _ _ v u Q I rx ry ⟨a, ws, rfl, .inr (hK ▸ h1.sq), flat_rep hx h.1.1, e2, by rw [e1]; exact h.2⟩
    · cases hx <;> simp [D.flat] at h
  · exact h.elim
end
end DL

set_option Elab.async false
set_option linter.all false
set_option maxRecDepth 100000
set_option maxHeartbeats 4000000
namespace DL
open PySem L2
section
variable {R : RP} {X : Cx} {M : Addr → Prop} {H : Hp} {Q : VK}
theorem tru_of {v : V} {d : D} {b : Bool} (h : Rdb R M H v d) (e : d.truth = some b) : TruV R.K v H b := by
  cases d with
  | non => cases h.non; exact (Option.some.inj e).symm
  | bl c => cases h.bl; exact (Option.some.inj e).symm
  | int c => cases h.int; exact (Option.some.inj e).symm
  | str c => obtain ⟨rfl, k⟩ := h.str; exact ⟨k.1, (Option.some.inj e).symm⟩
  | lst ds =>
    obtain ⟨a, xs, rfl, h1, l1, r1⟩ := h.lst
    refine .inl ⟨xs, SqL.of h1, ?_⟩
    have e' : (!ds.isEmpty) = b := Option.some.inj e
    rw [← e']
    cases r1 <;> rfl
  | tup ds =>
    obtain ⟨a, xs, rfl, h1, l1, r1⟩ := h.tup
    refine .inr (.inl ⟨xs, h1.sq, ?_⟩)
    have e' : (!ds.isEmpty) = b := Option.some.inj e
    rw [← e']
    cases r1 <;> rfl
  | dct ks vs =>
    have e' : (!ks.isEmpty) = b := Option.some.inj e
    rcases h with h | ⟨a, rfl, h⟩
    · cases h with
      | dct n h l r1 r2 =>
        refine .inr (.inr ⟨_, h, ?_⟩)
        rw [← e']
        rename_i kvs
        cases kvs <;> cases r1 <;> rfl
    · cases h with
      | dct h l r1 r2 =>
        refine .inr (.inr ⟨_, h, ?_⟩)
        rw [← e']
        rename_i kvs
        cases kvs <;> cases r1 <;> rfl
  | obj => simp [D.truth] at e
  | atom => simp [D.truth] at e

/-! ### items, slices -/
def rIxD (R : RP) : R2 := fun x y H Q => ∃ M d e, FreshM M H ∧ Rdb R M H x d ∧ Rdb R M H y e ∧ dIx d e (Out R M H Q)
theorem atI_rep {vs : List V} {ds : List D} (r : RepAll R M H vs ds) {i : Int} {d : D} (e : atI ds i = some d) : ∃ v, atI vs i = some v ∧ Rep R M H v d := by
  unfold atI at e ⊢
  rw [r.length]
  cases q : ixN ds.length i with
  | none => rw [q] at e; cases e
  | some j =>
    rw [q] at e
    obtain ⟨v, h1, h2⟩ := r.get (i := j) e
    exact ⟨v, h1, h2⟩
theorem ix_D (hK : R.K = X.K) : IxR X (rIxD R) := by
  intro value slice pins s σ H x y v u Q I rx ry q hs
  obtain ⟨M, d, e, fm, hx, hy, h⟩ := q
  unfold dIx at h
  split at h
  · obtain ⟨z, e1, h⟩ := h
    obtain ⟨a, vs, rfl, h1, l1, r1⟩ := hx.lst
    cases hy.int
    obtain ⟨w, e2, rw⟩ := atI_rep r1 e1
    exact ix_list value slice pins s σ H _ _ v u Q I rx ry ⟨a, vs, _, w, rfl, rfl, SqL.of h1, e2, h.now rw⟩ hs
  · obtain ⟨z, e1, h⟩ := h
    obtain ⟨a, vs, rfl, h1, l1, r1⟩ := hx.tup
    cases hy.int
    obtain ⟨w, e2, rw⟩ := atI_rep r1 e1
    exact ix_tup value slice pins s σ H _ _ v u Q I rx ry ⟨a, vs, _, w, rfl, rfl, hK ▸ h1.sq, e2, h.now rw⟩ hs
  · obtain ⟨z, e1, h⟩ := h
    obtain ⟨rfl, k⟩ := hx.str
    cases hy.int
    refine ix_str value slice pins s σ H _ _ v u Q I rx ry ⟨_, _, z, rfl, rfl, k.1, e1, h.now (.str _ (k.one ?_))⟩ hs
    unfold atI at e1
    cases q : ixN (List.length _) _ with
    | none => rw [q] at e1; cases e1
    | some j => rw [q] at e1; exact List.mem_of_getElem? e1
  · exact h.elim
def rSlD (R : RP) : V → Option Int → Option Int → Hp → VK → Prop := fun x lo hi H Q => ∃ M d, FreshM M H ∧ Rdb R M H x d ∧ dSl d lo hi (Out R M H Q)
theorem cut_rep {vs : List V} {ds : List D} (r : RepAll R M H vs ds) (lo hi : Option Int) : RepAll R M H (cutV vs lo hi) (cutD ds lo hi) := by
  unfold cutV cutD
  rw [r.length]
  exact (r.drop _).take _
theorem cutV_len (vs : List V) (lo hi : Option Int) : (cutV vs lo hi).length ≤ vs.length := by
  unfold cutV
  rw [List.length_take, List.length_drop]; omega
theorem sl_D (hK : R.K = X.K) : SlR X (rSlD R) := by
  intro pins s σ H x v vl vu lo hi sl Q I rx hs pl pu h
  obtain ⟨M, d, fm, hx, h⟩ := h
  cases d with
  | lst ds =>
    have h : Out R M H Q (.lst (cutD ds lo hi)) := h
    obtain ⟨a, vs, rfl, h1, l1, r1⟩ := hx.lst
    exact sl_list pins s σ H _ v vl vu lo hi sl Q I rx hs pl pu ⟨a, vs, rfl, SqL.of h1, h.lst fm (cut_rep r1 lo hi) (Nat.le_trans (cutV_len _ _ _) l1)⟩
  | tup ds =>
    have h : Out R M H Q (.tup (cutD ds lo hi)) := h
    obtain ⟨a, vs, rfl, h1, l1, r1⟩ := hx.tup
    refine sl_tupA pins s σ H _ v vl vu lo hi sl Q I rx hs pl pu ⟨a, vs, rfl, hK ▸ h1.sq, fun e => ?_, fun _ => h.tup fm (cut_rep r1 lo hi) (Nat.le_trans (cutV_len _ _ _) l1)⟩
    have e2 : cutD ds lo hi = ds := by
      unfold cutD
      rw [← r1.length, e.1, e.2]
      simp [r1.length]
    rw [e2] at h
    exact h.now (.tup h1 l1 r1)
  | str z =>
    have h : Out R M H Q (.str (cutS z lo hi)) := h
    obtain ⟨rfl, k⟩ := hx.str
    exact sl_str pins s σ H _ v vl vu lo hi sl Q I rx hs pl pu ⟨_, rfl, k.1, h.now (.str _ (k.cut _ _))⟩
  | _ => exact h.elim

/-! ### built-in functions and types -/
theorem bools_rep : ∀ {vs : List V} {ds : List D} {bs : List Bool}, RepAll R M H vs ds → boolsD ds = some bs → vs = bs.map V.bl
  | _, _, _, .nil, e => by cases e; rfl
  | _, _, bs, .cons (d := d) r t, e => by
    cases r with
    | bl b =>
      simp only [boolsD, Option.map_eq_some_iff] at e
      obtain ⟨bs', e1, rfl⟩ := e
      rw [bools_rep t e1]; rfl
    | _ => simp [boolsD] at e
theorem strs_rep : ∀ {vs : List V} {ds : List D} {bs : List Str}, RepAll R M H vs ds → strsD ds = some bs → vs = bs.map V.str ∧ ∀ y ∈ bs, SOk y
  | _, _, _, .nil, e => by cases e; exact ⟨rfl, fun _ h => nomatch h⟩
  | _, _, bs, .cons (d := d) r t, e => by
    cases r with
    | str b k =>
      simp only [strsD, Option.map_eq_some_iff] at e
      obtain ⟨bs', e1, rfl⟩ := e
      obtain ⟨e2, e3⟩ := strs_rep t e1
      exact ⟨by rw [e2]; rfl, fun y hy => (List.mem_cons.mp hy).elim (fun z => z ▸ k) (e3 y)⟩
    | _ => simp [strsD] at e
theorem ints_rep : ∀ {vs : List V} {ds : List D} {bs : List Int}, RepAll R M H vs ds → intsD ds = some bs → vs = bs.map V.int
  | _, _, _, .nil, e => by cases e; rfl
  | _, _, bs, .cons (d := d) r t, e => by
    cases r with
    | int b =>
      simp only [intsD, Option.map_eq_some_iff] at e
      obtain ⟨bs', e1, rfl⟩ := e
      rw [ints_rep t e1]; rfl
    | _ => simp [intsD] at e
theorem signs_rep {x : Str} (k : SOk x) : RepAll R M H (x.cps.toList.map fun c => V.str ⟨#[c]⟩) (signs x) := by
  have go : ∀ l : List Nat, (∀ c ∈ l, c ∈ x.cps.toList) → RepAll R M H (l.map fun c => V.str ⟨#[c]⟩) (l.map fun c => D.str ⟨#[c]⟩) := by
    intro l
    induction l with
    | nil => intro _; exact .nil
    | cons c l ih => intro h; exact .cons (.str _ (k.one (h c (by simp)))) (ih fun d hd => h d (List.mem_cons_of_mem _ hd))
  exact go _ fun _ h => h
/-- list(x) of a text -/
theorem call_list_text (hc : X.calm = true) : CallR X (.type "list") (fun xs H Q => ∃ z, xs = [.str z] ∧ z.length ≤ sizeLine ∧ ∀ p, H p = none → Q (.ref p) (upd H p (.lst (z.cps.toList.map fun c => V.str ⟨#[c]⟩)))) := by
  intro pins s σ H xs us Q I r h
  obtain ⟨z, rfl, hz, q⟩ := h
  obtain ⟨u, rfl, rx⟩ := vals1 r
  obtain ⟨t, rfl⟩ := rx
  refine call_list_str (I.ok.hd hc) z t (hn := hz) fun h' tk acc' c' hk hS hacc => ?_
  refine ⟨.ref s.heap.objs.size, _, I.laid (t' := tk) hk (Nat.le_refl _) ?_, rfl, q _ (I.hok.fresh (Nat.le_refl _))⟩
  refine ⟨by rw [List.length_map, Array.length_toList]; exact hz, acc'.toList, c', ?_, by simpa using hS⟩
  have go : ∀ (l : List Nat) (vs : List Value), vs.length = l.length → (∀ (j : Nat) v, vs[j]? = some v → ∃ c u, l[j]? = some c ∧ v = .str ⟨#[c]⟩ u) → Vals (l.map fun c => V.str ⟨#[c]⟩) vs := by
    intro l
    induction l with
    | nil => intro vs e _; cases vs with
      | nil => exact .nil
      | cons => simp at e
    | cons c l ih => intro vs e k; cases vs with
      | nil => simp at e
      | cons v vs =>
        obtain ⟨c', u, e1, rfl⟩ := k 0 v rfl
        have e1' : c = c' := by simpa using e1
        subst e1'
        exact .cons ⟨u, rfl⟩ (ih vs (by simpa using e) fun j w hw => k (j + 1) w (by simpa using hw))
  refine go _ _ (by simp [hacc.1]) fun j v hv => ?_
  obtain ⟨c, u, hc', rfl⟩ := hacc.2 j v (by simpa using hv)
  exact ⟨c, u, by simpa using hc', rfl⟩
end
end DL

set_option Elab.async false
set_option linter.all false
set_option maxRecDepth 100000
set_option maxHeartbeats 4000000
namespace DL
open PySem L2
/-- a def keeps its promise; rp: it is called only where no repr is under way -/
structure FnA (rp : Bool) (P : Program) (w : World) (K : PySem.W.Frag) (mg : Str → Option Value) (base : Heap) (CX : CXT) (k : Nat) (f : Addr) (fd : FuncData) (ps : List Str) (sp : Sp) : Prop where
  len : ∀ vs H Q E, sp vs H Q E → vs.length = ps.length
  run : ∀ (A : Around) (outer : List Env) (s : Shared) (H : Hp) (args : Args) (us : List Value) (vs : List V) (Q : VK) (E : XK), (rp = true → A.guards = some []) → Room k A → Env0 P w K mg base A outer s H →
    BindsTo s fd args (ps.zip us) → Vals vs us → sp vs H Q E → codeAny (model P w) A (.call (.ref f) args) (CR CX outer P w H s Q E) s
section
variable {rp : Bool} {P : Program} {w : World} {K : PySem.W.Frag} {mg : Str → Option Value} {base : Heap} {CX : CXT} {j k : Nat} {f : Addr} {fd : FuncData} {ps : List Str} {sp : Sp}
theorem FnA.of_ok (F : FnOk P w K mg base CX k f fd ps sp) : FnA rp P w K mg base CX k f fd ps sp := ⟨F.len, fun A o s H a us vs Q E _ hr e b r h => F.run A o s H a us vs Q E hr e b r h⟩
theorem FnA.ok (F : FnA false P w K mg base CX k f fd ps sp) : FnOk P w K mg base CX k f fd ps sp := ⟨F.len, fun A o s H a us vs Q E hr e b r h => F.run A o s H a us vs Q E (fun z => nomatch z) hr e b r h⟩
theorem FnA.up (F : FnA false P w K mg base CX k f fd ps sp) : FnA rp P w K mg base CX k f fd ps sp := .of_ok F.ok
theorem FnA.mono (F : FnA rp P w K mg base CX j f fd ps sp) (h : j ≤ k) : FnA rp P w K mg base CX k f fd ps sp := ⟨F.len, fun A o s H a us vs Q E g hr => F.run A o s H a us vs Q E g (hr.mono h)⟩
theorem FnA.imp {sp' : Sp} (F : FnA rp P w K mg base CX k f fd ps sp) (h : ∀ vs H Q E, sp' vs H Q E → sp vs H Q E) : FnA rp P w K mg base CX k f fd ps sp' :=
  ⟨fun vs H Q E q => F.len vs H Q E (h _ _ _ _ q), fun A o s H a us vs Q E g hr e b r q => F.run A o s H a us vs Q E g hr e b r (h _ _ _ _ q)⟩
/-- a def, by its body -/
theorem FnA.of_body {x qual : Str} {params : Arguments} {body : List Stmt} {scope : Scope} {N : List Str} {dvs : List V} {kws : List (Str × V)} (F : FunD K x qual params body scope dvs kws f fd) (S : FnScope N ps scope)
    (len : ∀ vs H Q E, sp vs H Q E → vs.length = ps.length)
    (hbody : ∀ (cdv : Value) (A : Around) (outer : List Env) (s : Shared) (H : Hp) (vs : List V) (Q : VK) (E : XK), (rp = true → A.guards = some []) → Room k (A.deeper (PyProof.Rows.envOfC qual scope s.heap.objs.size f cdv)) → sp vs H Q E →
      ∃ t, PSs (cxOf CX P w K mg base N qual scope f cdv A outer s H E) body t ∧ t { nx := fun _ H' => Q .non H', rt := Q } (start N vs) H) :
    FnA rp P w K mg base CX (k + 1) f fd ps sp := by
  obtain ⟨oc, od, dV, kV, doc, pm, an, cdv, ct, osl, rfl, lk, code, _, _⟩ := F.ex
  refine ⟨len, fun A outer s H args us vs Q E gd hr e0 hb r hsp => ?_⟩
  have hl := len _ _ _ _ hsp
  have KX : K.In s.heap := e0.mod.kin.keeps fun b o e => (e0.bs b o e).1
  have lim : s.heap.NoLimit := e0.mod.nolimit.keeps fun b o e => (e0.bs b o e).1
  have hkind : ∀ y ∈ ps.zip us, scope.names.lookup y.1 = some .local ∨ (scope.names.lookup y.1 = some .cell ∧ ((cellsFrom (s.heap.objs.size + 1) scope.names []).lookup y.1).isSome = true) := fun ⟨n, v⟩ hy => by
    rcases S.par n (List.of_mem_zip hy).1 with q | q
    · exact .inl q
    · exact .inr ⟨q, PySem.W.cellsFrom_some _ _ _ (.inl q)⟩
  refine codeAny_call_function hr.depth (KX _ _ lk) rfl S.co S.gen rfl (PySem.W.codeRec_of KX code) (hb _ _ _ _ ?_)
  refine wpAny_newFunctionEnv_cells S.kind hkind fun env he s1 x => ?_
  subst he
  refine ⟨lim.keeps x.toInCall.keep, codeAny_func ?_⟩
  obtain ⟨t, ht, hq⟩ := hbody cdv A outer s H vs Q E gd (hr.deeper _) hsp
  have I : Inv (cxOf CX P w K mg base N qual scope f cdv A outer s H E) [] (start N vs) H s1 := inv_start S hr.hd e0 hl r x
  refine wpAny_mono (ht.run [] s1 (start N vs) H _ I hq) (fun fl s' hs => ?_) fun e s' hs => hs
  have fin : ∀ {σ' : St} {H' : Hp} {v : V} {u : Value}, Inv (cxOf CX P w K mg base N qual scope f cdv A outer s H E) [] σ' H' s' → RelV v u → Q v H' → CE outer P w H s Q u s' :=
    fun {σ' H' v u} J rv q => ⟨v, H', J.os, J.bare, J.base, J.hok, rv, q⟩
  cases fl with
  | ret u =>
    obtain ⟨v, σ', H', J, rv, q⟩ := hs
    exact fin J rv q
  | next =>
    obtain ⟨σ', H', J, q⟩ := hs
    exact fin (v := V.non) (u := Value.none) J rfl q
  | brk =>
    obtain ⟨σ', H', J, q⟩ := hs
    exact q.elim
  | cont =>
    obtain ⟨σ', H', J, q⟩ := hs
    exact q.elim
end
/-- an exception of a callee reaches what is wished of it, with these slots -/
def PasA (CX : CXT) (X : Cx) (σ : St) (E : XK) : Prop := ∀ (pins : List (Addr × Obj)) (H : Hp) (s : Shared) (e : Value) (s' : Shared), Inv X pins σ H s → CX X.stack H s E e s' → X.xe e s'
def wat (W : WX) (σ : St) : XK := fun cls d H => W cls d σ H
section
variable {X : Cx} {rp : Bool} {CX : CXT} {k : Nat} {f : Addr} {fd : FuncData} {ps : List Str} {sp : Sp} {E : XK} {x : Str} {p pos : Pos} {e : Expr} {es : List Expr} {t : TA}
theorem FnA.go (F : FnA rp X.prog X.w X.K X.mg X.base CX k f fd ps sp) (gd : rp = true → X.A.guards = some []) (hr : Room k X.A) {σ : St} (hx : PasA CX X σ E) {pins : List (Addr × Obj)} {H : Hp} {s : Shared} {Q : VK} {args : Args} {us : List Value} {vs : List V}
    (hb : BindsTo s fd args (ps.zip us)) (I : Inv X pins σ H s) (r : Vals vs us) (h : sp vs H Q E) : codeAny (model X.prog X.w) X.A (.call (.ref f) args) (fun r s' => match r with
      | .ok (.ret u) => EP X pins σ Q u s'
      | .ok _ => False
      | .error e => X.xe e s') s := by
  refine codeAny_mono (F.run X.A X.stack s H args us vs Q E gd hr I.env0 hb r h) fun z s' hq => ?_
  match z, hq with
  | .error e, hq => exact hx pins H s e s' I hq
  | .ok (.ret u), hq => exact I.after hq
  | .ok .next, hq => exact hq
  | .ok .brk, hq => exact hq
  | .ok .cont, hq => exact hq
theorem FnA.call (F : FnA rp X.prog X.w X.K X.mg X.base CX k f fd ps sp) (gd : rp = true → X.A.guards = some []) (hr : Room k X.A) (hb : Binds X.K fd ps []) {σ : St} (hx : PasA CX X σ E) {pins : List (Addr × Obj)} {H : Hp} {s : Shared} {Q : VK} {us : List Value} {vs : List V}
    (I : Inv X pins σ H s) (r : Vals vs us) (h : sp vs H Q E) : wpAny (model X.prog X.w) X.A (PySem.call (.ref f) us) (EP X pins σ Q) X.xe s := by
  have bt := hb s us I.kIn (by rw [List.append_nil, ← r.length]; exact F.len _ _ _ _ h)
  rw [List.append_nil] at bt
  refine wpAny_call (codeAny_mono (F.go gd hr hx bt I r h) fun z s' hq => ?_)
  match z, hq with
  | .error e, hq => exact hq
  | .ok (.ret u), hq => exact hq
/-- f(a, ..) -/
theorem pe_callA {E : St → XK} (F : FnA rp X.prog X.w X.K X.mg X.base CX k f fd ps sp) (gd : rp = true → X.A.guards = some []) (hr : Room k X.A) (hg : Gl X x) (hm : X.mg x = some (.ref f)) (hk : PySem.W.keepIn X.K (.ref f) = true) (hb : Binds X.K fd ps []) (hx : ∀ σ, PasA CX X σ (E σ))
    (ha : PA X (e :: es) t) (hdb : (x == ("__debug__" : Str)) = false) (he : starEach (e :: es) X.env = (false, eval e X.env) :: starEach es X.env) (hpl : (backTo pos (starEach es X.env)).any (·.1) = false) :
    PE X (.Call (.Name x p) (e :: es) [] pos) (fun σ H Q => t σ H fun vs H1 => sp vs H1 Q (E σ)) := by
  refine ⟨fun pins s σ H Q I h => wpAny_Call_Name_kw (ld_glob I hg hm ?_ hdb)⟩
  exact PySem.W.callWith_K (h₀ := X.base) I.ok.mod.kin hk (thn (ha.run pos pins s σ H _ I h) fun us s1 ⟨vs, H1, I1, r, q⟩ => ⟨I1.kIn, F.call gd hr hb (hx σ) I1 r q⟩) he hpl
end

/-! ### built-in functions and types -/
def isTyId (id : String) : Bool := ["int", "list", "tuple", "str"].contains id
def bltV (id : String) : Value := if isTyId id then .type id else .builtin id
section
variable {R : RP} {X : Cx} {M : Addr → Prop} {H : Hp} {Q : VK}
def RdbAll (R : RP) (M : Addr → Prop) (H : Hp) : List V → List D → Prop
  | [], [] => True
  | v :: vs, d :: ds => Rdb R M H v d ∧ RdbAll R M H vs ds
  | _, _ => False
theorem RdbAll.one {vs : List V} {d : D} (h : RdbAll R M H vs [d]) : ∃ v, vs = [v] ∧ Rdb R M H v d := by
  match vs, h with
  | [v], h => exact ⟨v, rfl, h.1⟩
theorem RdbAll.two {vs : List V} {d e : D} (h : RdbAll R M H vs [d, e]) : ∃ v w, vs = [v, w] ∧ Rdb R M H v d ∧ Rdb R M H w e := by
  match vs, h with
  | [v, w], h => exact ⟨v, w, rfl, h.1, h.2.1⟩
/-- no tracked thing lies where the modules' table lies -/
def SysOk (K : PySem.W.Frag) : Prop := ∃ o, K.lookup sysModules = some o ∧ o.cls = .type "dict"
theorem dictText_lt : ∀ {ks vs : List PyData}, (∀ t ∈ PyData.shownAll ks, ∀ c ∈ t.cps.toList, c < 0x110000) → (∀ t ∈ PyData.shownAll vs, ∀ c ∈ t.cps.toList, c < 0x110000) → ∀ t ∈ PyData.shownKv (ks.zip vs), ∀ c ∈ t.cps.toList, c < 0x110000
  | [], _, _, _ => fun t h => by simp [PyData.shownKv] at h
  | _ :: _, [], _, _ => fun t h => by simp [PyData.shownKv] at h
  | k :: ks, v :: vs, h1, h2 => fun t h => by
    simp only [List.zip_cons_cons, PyData.shownKv, List.mem_cons] at h
    simp only [PyData.shownAll, List.mem_cons] at h1 h2
    rcases h with rfl | h
    · exact app_lt (app_lt (h1 _ (.inl rfl)) (lit_lt _ (by decide +kernel))) (h2 _ (.inl rfl))
    · exact dictText_lt (fun t q => h1 t (.inr q)) (fun t q => h2 t (.inr q)) t h
mutual
theorem shown_lt : ∀ {v : V} {d : D}, Rep R M H v d → d.shows = true → ∀ c ∈ d.py.shown.cps.toList, c < 0x110000
  | _, _, .non, _ => by simp only [D.py, PyData.shown]; exact lit_lt _ (by decide +kernel)
  | _, _, .bl b, _ => by simp only [D.py, PyData.shown]; cases b <;> exact lit_lt _ (by decide +kernel)
  | _, _, .int i, _ => by simp only [D.py, PyData.shown]; exact toString_lt i
  | _, _, .str x k, _ => by simp only [D.py, PyData.shown]; exact reprText_lt k.lt
  | _, _, .lst h l r, p => by
    simp only [D.py, PyData.shown]
    exact app_lt (textFrom_lt _ _ _ (lit_lt _ (by decide +kernel)) (showns_lt r p)) (lit_lt _ (by decide +kernel))
  | _, _, .tup h l r, p => by
    simp only [D.py, PyData.shown]
    exact app_lt (app_lt (lit_lt _ (by decide +kernel)) (join_lt (lit_lt _ (by decide +kernel)) _ (showns_lt r p))) (by split <;> exact lit_lt _ (by decide +kernel))
  | _, _, .dct n h l r1 r2, p => by
    have q := Bool.and_eq_true_iff.mp (show (D.showss _ && D.showss _) = true from p)
    simp only [D.py, PyData.shown]
    exact app_lt (app_lt (lit_lt _ (by decide +kernel)) (join_lt (lit_lt _ (by decide +kernel)) _ (dictText_lt (showns_lt r1 q.1) (showns_lt r2 q.2)))) (lit_lt _ (by decide +kernel))
  | _, _, .obj .., p => by simp [D.shows] at p
  | _, _, .atom n, p => by simp [D.shows] at p
theorem showns_lt : ∀ {v : List V} {d : List D}, RepAll R M H v d → D.showss d = true → ∀ t ∈ PyData.shownAll (D.pys d), ∀ c ∈ t.cps.toList, c < 0x110000
  | _, _, .nil, _ => fun _ h => by simp [D.pys, PyData.shownAll] at h
  | _, _, .cons r t, p => fun y hy => by
    have q := Bool.and_eq_true_iff.mp (show (D.shows _ && D.showss _) = true from p)
    simp only [D.pys, PyData.shownAll, List.mem_cons] at hy
    rcases hy with rfl | hy
    · exact shown_lt r q.1
    · exact showns_lt t q.2 y hy
end
theorem Rdb.shown_lt {v : V} {d : D} (h : Rdb R M H v d) (p : d.shows = true) : ∀ c ∈ d.py.shown.cps.toList, c < 0x110000 := by
  rcases h with h | ⟨a, rfl, h⟩
  · exact DL.shown_lt h p
  · cases h with
    | lst h l r =>
      simp only [D.py, PyData.shown]
      exact app_lt (textFrom_lt _ _ _ (lit_lt _ (by decide +kernel)) (showns_lt r p)) (lit_lt _ (by decide +kernel))
    | dct h l r1 r2 =>
      have q := Bool.and_eq_true_iff.mp (show (D.showss _ && D.showss _) = true from p)
      simp only [D.py, PyData.shown]
      exact app_lt (app_lt (lit_lt _ (by decide +kernel)) (join_lt (lit_lt _ (by decide +kernel)) _ (dictText_lt (showns_lt r1 q.1) (showns_lt r2 q.2)))) (lit_lt _ (by decide +kernel))
/-! what repr reads: data, and never the modules' table -/
theorem pys_length : ∀ ds : List D, (D.pys ds).length = ds.length
  | [] => rfl
  | _ :: ds => by simp [D.pys, pys_length ds]
theorem vals_pairs {P : Program} {w : World} : ∀ {es : List DictEntry} {rs : List (Key × Value)} {kvs : List (Key × V)}, Pairs (mixKind P w) es rs → KV kvs rs → Vals (kvs.map fun p => kV p.1) (es.map (·.key)) ∧ Vals (kvs.map (·.2)) (es.map (·.val))
  | _, _, _, .nil, r => by
    cases r
    exact ⟨.nil, .nil⟩
  | _, _, _, .cons (kv := kv) h e t, r => by
    cases r with
    | cons h2 t2 =>
      obtain ⟨q1, q2⟩ := vals_pairs t t2
      obtain ⟨z1, z2⟩ := h2
      refine ⟨.cons ?_ q1, .cons (by simp only [e]; exact z2) q2⟩
      simp only [z1]
      rcases keyIs_shape (show keyIs kv.1 _ = true from h) with ⟨i, t, e1, e2⟩ | ⟨i, t, e1, e2⟩
      · simp only [e1, e2]; exact ⟨t, rfl⟩
      · simp only [e1, e2]; exact ⟨t, rfl⟩
section
variable {pins : List (Addr × Obj)} {σ : St} {s : Shared}
theorem not_sys (I : Inv X pins σ H s) (hs : SysOk X.K) {a : Addr} {o : Obj} (e : s.heap.get? a = some o) (hc : o.cls = .type "list") : a ≠ sysModules := fun z => by
  obtain ⟨u, h1, h2⟩ := hs
  have := I.kIn _ _ h1
  subst z
  rw [e] at this
  cases this
  rw [hc] at h2
  exact absurd (Value.type.inj h2) (by decide)
mutual
theorem Rep.reads (hK : R.K = X.K) (hs : SysOk X.K) (I : Inv X pins σ H s) : ∀ {v : V} {d : D}, Rep R M H v d → ∀ u, RelV v u → d.shows = true → ∃ as, Reads s.heap u d.py as ∧ ∀ a ∈ as, a ≠ sysModules
  | _, _, .non, u, r, _ => by
    cases r
    exact ⟨_, Reads.none, fun _ h => nomatch h⟩
  | _, _, .bl b, u, r, _ => by
    cases r
    exact ⟨_, Reads.bool b, fun _ h => nomatch h⟩
  | _, _, .int i, u, r, _ => by
    obtain ⟨t, rfl⟩ := r
    exact ⟨_, Reads.int i t, fun _ h => nomatch h⟩
  | _, _, .str x k, u, r, _ => by
    obtain ⟨t, rfl⟩ := r
    exact ⟨_, Reads.str x t, fun _ h => nomatch h⟩
  | _, _, .lst h l q, u, r, p => by
    cases r
    obtain ⟨its, rv, ⟨o, n, ho, hc, _, hd⟩, _⟩ := I.list (SqL.of h.2)
    obtain ⟨as, hr, hn⟩ := RepAll.reads hK hs I q its rv p
    exact ⟨_, Reads.list ho hc hd hr, fun a z => (List.mem_cons.mp z).elim (fun z => z ▸ not_sys I hs ho hc) (hn a)⟩
  | _, _, .tup h l q, u, r, p => by
    cases r
    obtain ⟨its, rv, ⟨o, ho, hc, n, hd⟩, _⟩ := I.tuple (hK ▸ h.sq)
    obtain ⟨as, hr, hn⟩ := RepAll.reads hK hs I q its rv p
    exact ⟨_, Reads.tuple ho hc hd hr, hn⟩
  | _, _, .dct (ks := ks) (vs := ws) n h l r1 r2, u, r, p => by
    have q := Bool.and_eq_true_iff.mp (show (D.showss _ && D.showss _) = true from p)
    cases r
    obtain ⟨_, y, vs, rk, o, es, ep, ho, hc, hd, _, hp, _⟩ := dk_of I.hok h
    obtain ⟨v1, v2⟩ := vals_pairs hp rk
    obtain ⟨as, ha, na⟩ := RepAll.reads hK hs I r1 _ v1 q.1
    obtain ⟨bs, hb, nb⟩ := RepAll.reads hK hs I r2 _ v2 q.2
    have ly : (D.pys ks).length = (D.pys ws).length := by rw [pys_length, pys_length, ← r1.length, ← r2.length, List.length_map, List.length_map]
    refine ⟨_, Reads.dict ho hc.1 hd (kvs := (D.pys ks).zip (D.pys ws)) (as := as) (bs := bs) ?_ ?_, fun a z => ?_⟩
    · rw [List.map_fst_zip (Nat.le_of_eq ly)]; exact ha
    · rw [List.map_snd_zip (Nat.le_of_eq ly.symm)]; exact hb
    · rcases List.mem_append.mp z with z | z
      · rcases List.mem_cons.mp z with z | z
        · rw [z]; simpa using y
        · exact na a z
      · exact nb a z
  | _, _, .obj .., u, r, p => by simp [D.shows] at p
  | _, _, .atom n, u, r, p => by simp [D.shows] at p
theorem RepAll.reads (hK : R.K = X.K) (hs : SysOk X.K) (I : Inv X pins σ H s) : ∀ {v : List V} {d : List D}, RepAll R M H v d → ∀ us, Vals v us → D.showss d = true → ∃ as, ReadsAll s.heap us (D.pys d) as ∧ ∀ a ∈ as, a ≠ sysModules
  | _, _, .nil, us, r, _ => by
    cases r
    exact ⟨_, ReadsAll.nil, fun _ h => nomatch h⟩
  | _, _, .cons h t, us, r, p => by
    have q := Bool.and_eq_true_iff.mp (show (D.shows _ && D.showss _) = true from p)
    cases r with
    | cons r1 r2 =>
      obtain ⟨as, ha, na⟩ := Rep.reads hK hs I h _ r1 q.1
      obtain ⟨bs, hb, nb⟩ := RepAll.reads hK hs I t _ r2 q.2
      exact ⟨_, ReadsAll.cons ha hb, fun a z => (List.mem_append.mp z).elim (na a) (nb a)⟩
end
theorem OwnAt.rd {a : Addr} {d : D} (h : OwnAt R M H a d) : Rep R (fun _ => False) H (.ref a) d := h.rep (fun _ z => z.elim) (fun z => z.elim)
theorem Rdb.reads (hK : R.K = X.K) (hs : SysOk X.K) (I : Inv X pins σ H s) {v : V} {d : D} (h : Rdb R M H v d) {u : Value} (r : RelV v u) (p : d.shows = true) : ∃ as, Reads s.heap u d.py as ∧ ∀ a ∈ as, a ≠ sysModules := by
  rcases h with h | ⟨a, rfl, h⟩
  · exact h.reads hK hs I u r p
  · exact h.rd.reads hK hs I u r p
end
/-- repr(x) of data -/
theorem call_reprD (hK : R.K = X.K) (hs : SysOk X.K) (hg : X.A.guards = some []) (hu : X.A.units + 64 < cLine) : CallR X (.builtin "repr") (fun xs H Q => ∃ v M d, xs = [v] ∧ Rdb R M H v d ∧ d.shows = true ∧ d.py.depth ≤ 60 ∧ d.py.showable = true ∧ d.py.shown.length ≤ sizeLine ∧ Q (.str d.py.shown) H) := by
  intro pins s σ H xs us Q I r h
  obtain ⟨v, M, d, rfl, hd, nd, dp, sh, sz, q⟩ := h
  obtain ⟨u, rfl, rx⟩ := vals1 r
  obtain ⟨as, rd, ns⟩ := hd.reads hK hs I rx nd
  have big : ∀ a, u = .ref a → wpAny (model X.prog X.w) X.A (PySem.call (.builtin "repr") [u]) (EP X pins σ Q) X.xe s := fun a e => by
    subst e
    exact repr_of_reads' (hsz := sz) rd sh (fun _ z => ns _ z rfl) hg (by omega) (fun _ _ e => e) fun h' u tk k => ⟨.str _, H, I.kept (t' := tk) k, ⟨_, rfl⟩, q⟩
  cases d with
  | non =>
    cases hd.non
    cases rx
    exact PySem.P.repr_of_none ⟨.str _, H, I.tok _, ⟨_, rfl⟩, by simpa only [D.py, PyData.shown] using q⟩
  | bl b =>
    cases hd.bl
    cases rx
    exact PySem.P.repr_of_bool ⟨.str _, H, I.tok _, ⟨_, rfl⟩, by simpa only [D.py, PyData.shown] using q⟩
  | int i =>
    cases hd.int
    obtain ⟨t, rfl⟩ := rx
    exact PySem.P.repr_of_int (by simpa [D.py, PyData.showable] using sh) ⟨.str _, H, I.tok _, ⟨_, rfl⟩, by simpa only [D.py, PyData.shown] using q⟩
  | str y =>
    obtain ⟨rfl, _⟩ := hd.str
    obtain ⟨t, rfl⟩ := rx
    exact PySem.P.repr_of_str (hsz := by simpa only [D.py, PyData.shown] using sz) ⟨.str _, H, I.tok _, ⟨_, rfl⟩, by simpa only [D.py, PyData.shown] using q⟩
  | lst ds =>
    obtain ⟨a, xs, rfl, _⟩ := hd.lst
    cases rx
    exact big a rfl
  | tup ds =>
    obtain ⟨a, xs, rfl, _⟩ := hd.tup
    cases rx
    exact big a rfl
  | dct ks vs =>
    have : ∃ a, v = .ref a := by
      rcases hd with h | ⟨a, e, _⟩
      · cases h; exact ⟨_, rfl⟩
      · exact ⟨a, e⟩
    obtain ⟨a, rfl⟩ := this
    cases rx
    exact big a rfl
  | obj c fs => simp [D.shows] at nd
  | atom n => simp [D.shows] at nd
def rBlt (R : RP) (id : String) : List V → Hp → VK → Prop := fun xs H Q => ∃ M ds, FreshM M H ∧ RdbAll R M H xs ds ∧ dBlt id ds (Out R M H Q)
theorem toStr_ok {i : Int} (h : i.natAbs.log2 < 1920) : SOk (toString i) := .mk (PySem.int_text_fits h) (toString_lt i)
theorem ints_repD {M : Addr → Prop} {H : Hp} : ∀ {vs : List V} {ds : List D} {ns : List Int}, RepAll R M H vs ds → intsD ds = some ns → vs = ns.map V.int
  | _, _, ns, .nil, e => by simp [intsD] at e; subst e; rfl
  | _, _, ns, .cons (d := d) r t, e => by
    cases d <;> simp only [intsD] at e <;> try cases e
    obtain ⟨m, e1, rfl⟩ := Option.map_eq_some_iff.mp e
    cases r
    rw [ints_repD t e1]
    rfl
theorem ints_mk {M : Addr → Prop} {H : Hp} : ∀ ns : List Int, RepAll R M H (ns.map V.int) (ns.map D.int)
  | [] => .nil
  | _ :: ns => .cons (.int _) (ints_mk ns)
theorem call_D {id : String} (hK : R.K = X.K) (hs : SysOk X.K) (hc : X.calm = true) (hu : X.A.units + 64 < cLine) (hg : id = "repr" → X.A.guards = some []) : CallR X (bltV id) (rBlt R id) := by
  intro pins s σ H xs us Q I r h
  obtain ⟨M, ds, fm, hx, h⟩ := h
  unfold dBlt at h
  split at h
  · obtain ⟨v, rfl, hv⟩ := hx.one
    obtain ⟨rfl, k⟩ := hv.str
    exact call_len_str pins s σ H _ us Q I r ⟨_, rfl, k.1, h.now (.int _)⟩
  · obtain ⟨v, rfl, hv⟩ := hx.one
    obtain ⟨a, vs, rfl, h1, l1, r1⟩ := hv.lst
    exact call_len_seq pins s σ H _ us Q I r ⟨a, vs, rfl, .inl (SqL.of h1), by rw [r1.length]; exact h.now (.int _)⟩
  · obtain ⟨v, rfl, hv⟩ := hx.one
    obtain ⟨a, vs, rfl, h1, l1, r1⟩ := hv.tup
    exact call_len_seq pins s σ H _ us Q I r ⟨a, vs, rfl, .inr (hK ▸ h1.sq), by rw [r1.length]; exact h.now (.int _)⟩
  · obtain ⟨v, rfl, hv⟩ := hx.one
    obtain ⟨a, vs, rfl, h1, l1, r1⟩ := hv.lst
    obtain ⟨bs, e, h⟩ := h
    have e2 := bools_rep r1 e
    subst e2
    exact cr_all hc pins s σ H _ us Q I r ⟨a, bs, rfl, SqL.of h1, h.now (.bl _)⟩
  · obtain ⟨v, rfl, hv⟩ := hx.one
    obtain ⟨a, vs, rfl, h1, l1, r1⟩ := hv.lst
    obtain ⟨bs, e, h⟩ := h
    have e2 := bools_rep r1 e
    subst e2
    exact cr_any hc pins s σ H _ us Q I r ⟨a, bs, rfl, SqL.of h1, h.now (.bl _)⟩
  · obtain ⟨v, rfl, hv⟩ := hx.one
    obtain ⟨⟨p, dp, sh, sz⟩, h⟩ := h
    exact call_reprD hK hs (hg rfl) hu pins s σ H _ us Q I r ⟨v, M, _, rfl, hv, p, dp, sh, sz, h.now (.str _ (.mk sz (hv.shown_lt p)))⟩
  · obtain ⟨v, rfl, hv⟩ := hx.one
    cases hv.int
    exact call_int1 pins s σ H _ us Q I r (.inl ⟨_, rfl, h.now (.int _)⟩)
  · obtain ⟨v, rfl, hv⟩ := hx.one
    cases hv.bl
    exact call_int1 pins s σ H _ us Q I r (.inr ⟨_, rfl, h.now (.int _)⟩)
  · obtain ⟨v, rfl, hv⟩ := hx.one
    obtain ⟨a, vs, rfl, h1, l1, r1⟩ := hv.lst
    exact call_list_of pins s σ H _ us Q I r ⟨a, vs, rfl, .inl (SqL.of h1), h.lst fm r1 l1⟩
  · obtain ⟨v, rfl, hv⟩ := hx.one
    obtain ⟨a, vs, rfl, h1, l1, r1⟩ := hv.tup
    exact call_list_of pins s σ H _ us Q I r ⟨a, vs, rfl, .inr (hK ▸ h1.sq), h.lst fm r1 l1⟩
  · obtain ⟨v, rfl, hv⟩ := hx.one
    obtain ⟨rfl, k⟩ := hv.str
    exact call_list_text hc pins s σ H _ us Q I r ⟨_, rfl, k.1, h.lst fm (signs_rep k) (by rw [List.length_map, Array.length_toList]; exact k.1)⟩
  · obtain ⟨v, rfl, hv⟩ := hx.one
    obtain ⟨a, vs, rfl, h1, l1, r1⟩ := hv.lst
    exact call_tuple_of pins s σ H _ us Q I r ⟨a, vs, rfl, .inl ⟨SqL.of h1, h.tup fm r1 l1⟩⟩
  · obtain ⟨v, rfl, hv⟩ := hx.one
    obtain ⟨a, vs, rfl, h1, l1, r1⟩ := hv.tup
    exact call_tuple_of pins s σ H _ us Q I r ⟨a, vs, rfl, .inr ⟨hK ▸ h1.sq, h.now (.tup h1 l1 r1)⟩⟩
  · obtain ⟨v, rfl, hv⟩ := hx.one
    cases hv.int
    exact call_str_int pins s σ H _ us Q I r ⟨_, rfl, h.1, h.2.now (.str _ (toStr_ok h.1))⟩
  · obtain ⟨v, rfl, hv⟩ := hx.one
    obtain ⟨rfl, k⟩ := hv.str
    obtain ⟨n, e, l, h⟩ := h
    exact call_int_str pins s σ H _ us Q I r ⟨_, n, rfl, e, l, h.now (.int _)⟩
  · obtain ⟨v, w, rfl, hv, hw⟩ := hx.two
    cases hv.int
    cases hw.int
    exact call_max2 hc pins s σ H _ us Q I r ⟨_, _, rfl, h.now (.int _)⟩
  · obtain ⟨v, w, rfl, hv, hw⟩ := hx.two
    cases hv.int
    cases hw.int
    exact call_min2 hc pins s σ H _ us Q I r ⟨_, _, rfl, h.now (.int _)⟩
  · obtain ⟨v, rfl, hv⟩ := hx.one
    obtain ⟨a, vs, rfl, h1, l1, r1⟩ := hv.lst
    obtain ⟨ns, e, h⟩ := h
    have e2 := ints_repD r1 e
    subst e2
    exact cr_sortedI pins s σ H _ us Q I r ⟨a, ns, rfl, SqL.of h1, fun ns' p pm pw hp => (h ns' pm pw).lst fm (ints_mk ns') (by rw [List.length_map, pm.length_eq]; rw [List.length_map] at l1; exact l1) p hp⟩
  · exact h.elim
end
end DL

set_option Elab.async false
set_option linter.all false
set_option maxRecDepth 100000
set_option maxHeartbeats 4000000
/-! own exception classes over Exception, made by an own __init__ that calls its base's -/
namespace DL
open PySem L2
section
open PySem.Builtin PySem.Builtin.ObjectAttr PyProof.Rows PySem.Calls
abbrev eTail : List Value := [.type "Exception", .type "BaseException", .type "object"]
def rfE : List Value → Bool
  | .ref _ :: l => rfE l
  | l => l == eTail
theorem rfE_or : ∀ l : List Value, rfE l = true → l = eTail ∨ ∃ c r, l = .ref c :: r ∧ rfE r = true := fun l h => by
  unfold rfE at h
  split at h
  · exact .inr ⟨_, _, rfl, h⟩
  · exact .inl (eq_of_beq h)
theorem rfE_pass (z : Value) : ∀ l : List Value, rfE l = true → refuseLoop z "__setattr__" l = pure ()
  | [], h => absurd h (by decide)
  | v :: l, h => by
    rcases rfE_or (v :: l) h with e | ⟨c, r, e, h2⟩
    · rw [e]; exact F.store_Exception.passes z
    · cases e
      rw [refuseLoop_ref]
      exact rfE_pass z l h2
theorem rfE_has (Y : String) : ∀ l : List Value, rfE l = true → l.contains (.type Y) = eTail.contains (.type Y)
  | [], h => absurd h (by decide)
  | v :: l, h => by
    rcases rfE_or (v :: l) h with e | ⟨c, r, e, h2⟩
    · rw [e]
    · cases e
      rw [List.contains_cons, rfE_has Y l h2]
      rfl
variable {pg : Program} {wd : World} {Ar : Around} {Rs : Result → Shared → Prop} {h0 : Heap} {gs : Array GenState} {dr : Drawn} {n0 : Nat} {oz : OsState}
/-- self.f = v on an exception without a dict -/
theorem osaE {K : PySem.W.Frag} {fn : Str} {tk : Tok} {v : Value} {x Ca : Addr} {fa : Array Value} {kd : ClassData} (kin : K.In h0) (hx : h0.get? x = some { cls := .ref Ca, data := .fields fa }) (hkd : PySem.W.clsIn K Ca = some kd) (hm : rfE kd.mro = true) (hd : kd.hasDict = true)
    (hno : PySem.W.findIn K (.ref Ca) fn = some none) (hq : ∀ h1 tk1 dx, (∀ b o, b ≠ x → h0.get? b = some o → h1.get? b = some o) → h0.objs.size ≤ dx → dx ≠ x →
      h1.get? x = some { cls := .ref Ca, dict := some dx, data := .fields fa } → h1.Ns1 dx (fun y => if y = fn then some v else none) → Rs (.ok (.ret .none)) ⟨h1, gs, dr, tk1, oz⟩) :
    codeAny (model pg wd) Ar (.call (.builtin "object.__setattr__") ⟨[.ref x, .str fn tk, v], []⟩) Rs ⟨h0, gs, dr, n0, oz⟩ := by
  have inst : PySem.W.InstAt h0 x { cls := .ref Ca, data := .fields fa } Ca none := ⟨hx, rfl, rfl, trivial⟩
  have so := F.store_object
  have hne : kd.mro.isEmpty = false := by
    cases e : kd.mro with
    | nil => rw [e] at hm; exact absurd hm (by decide)
    | cons a l => rfl
  have hob : kd.mro.contains (.type "object") = true := by rw [rfE_has _ _ hm]; decide +kernel
  have hxs : h0.objs.size ≠ x := fun e => Nat.lt_irrefl _ (e ▸ Heap.lt_size hx)
  have isO : PySem.W.Looks (model pg wd) h0 (isInstance (.ref x) (.type "object")) true := by
    refine inst.type.andThen (PySem.W.looks_mroIn kin ?_)
    unfold PySem.W.mroIn
    rw [hkd, Option.bind_some, hne]
    exact congrArg some hob
  refine codeAny_call_builtin so.slot.plain so.entry ?_
  refine @PySem.W.check_slot (model pg wd) _ _ ⟨h0, gs, dr, n0, oz⟩ "object.__setattr__" "object" "__setattr__" (.ref x) [.str fn tk, v] [] _ so.kind so.split isO (so.args (.ref x) (.str fn tk) v) ?_
  have lm : PySem.W.Looks (model pg wd) h0 (mroOf (.ref Ca)) kd.mro := (PySem.W.looks_clsIn kin hkd).andThen .now
  have lt : PySem.W.Looks (model pg wd) h0 (storeTaker? none) none := .now
  have lc : PySem.W.Looks (model pg wd) h0 (classData Ca) kd := PySem.W.looks_clsIn kin hkd
  rw [PySem.W.osa_eq, refuse_eq]
  refine wpAny_bind (wpAny_bind (inst.type.at (wpAny_bind (lm.at ?_))))
  rw [rfE_pass _ _ hm]
  refine wpAny_pure (wpAny_bind (inst.type.at (wpAny_bind ((PySem.W.looks_findIn kin hno).at (wpAny_bind (lt.at ?_))))))
  show wpAny _ _ (storeInOwnDict (.ref x) (.ref Ca) (.str fn tk) fn v false) _ _ _
  obtain ⟨c1, c2, c3, c4, c5, c6, c7, c8, c9, c10, c11⟩ := kd
  dsimp only at hd
  subst hd
  unfold storeInOwnDict ownDictForStores
  repeat (first | with_reducible refine HandSPX.store_in_new ?_ ?_ | with_reducible refine wpAny_loadPart_at hx ?_ | with_reducible refine lc.at ?_ | wp_step)
  · exact ⟨_, #[], _, (Heap.get?_update_ne _ _ _ _ hxs).trans (Heap.get?_push_at rfl rfl), rfl, fun e he => absurd he (by simp), fun _ => rfl⟩
  · intro h1 tk1 hns hsb
    have hx1 : (h0.push { cls := .type "dict", data := .dict #[] }).get? x = some { cls := .ref Ca, data := .fields fa } := Heap.get?_push_of_some _ hx
    refine hq h1 tk1 h0.objs.size (fun b o hb ho => ?_) (Nat.le_refl _) hxs ?_ hns
    · rw [hsb.2 b (Nat.ne_of_lt (Heap.lt_size ho)), Heap.get?_update_ne _ _ _ _ hb]
      exact Heap.get?_push_of_some _ ho
    · rw [hsb.2 x (Ne.symm hxs)]
      exact Heap.get?_update_self _ hx1 rfl
end
/-- what the written part says of such a class -/
structure OexE (K : PySem.W.Frag) (Ca : Addr) : Prop where
  obj : ∃ nm q N bs bm sn sub ab col dd k0 k1 k2 k3 k5, K.lookup Ca = some (excClassObj nm q Ca N bs bm true sn sub ab col dd k0 k1 k2 k3 k5 "Exception.__new__") ∧ rfE bm = true
  sa : PySem.W.findIn K (.ref Ca) "__setattr__" = some (some (.builtin "object.__setattr__"))
  ex : PySem.W.subIn K (.ref Ca) (.type "BaseException") = some true
  ty : PySem.W.typeIn K (.ref Ca) = some (.type "type")
  kp : PySem.W.keepIn K (.ref Ca) = true
theorem upd_none {H : Hp} {b a : Addr} {o : HO} (ne : b ≠ a) (n : H b = none) : upd H a o b = none := by rw [upd_ne ne]; exact n
section
variable {X : Cx} {pins : List (Addr × Obj)} {σ : St} {H : Hp} {s : Shared} {a Ca : Addr} {fn : Str} {y : V} {u : Value} {Q : Unit → Shared → Prop} {E : Value → Shared → Prop} {Ar : Around}
/-- self.f = y, on an exception without a dict -/
theorem ostE (T : OexE X.K Ca) (I : Inv X pins σ H s) (e : H a = some (exo a Ca none)) (hno : PySem.W.findIn X.K (.ref Ca) fn = some none) (ry : RelV y u)
    (h : ∀ dx s1, H dx = none → dx ≠ a → Inv X pins σ (upd (upd H dx (exd dx [(fn, y)])) a (exo a Ca (some dx))) s1 → Q () s1) : wpAny (model X.prog X.w) Ar (setAttr (.ref a) fn u) Q E s := by
  obtain ⟨c1, c2, c3, c4, c5, c6, c7, c8, c9, c10, _, _, _, _, _, look, hbm⟩ := T.obj
  have hkd : PySem.W.clsIn X.K Ca = some { name := c1, bases := c4, mro := .ref Ca :: c5, ns := c3, qualname := c2, hasDict := true, slotNames := c6, subclasses := c7, abstract := c8, collection := c9, hasDel := false } := by
    unfold PySem.W.clsIn
    rw [look] <;> rfl
  obtain ⟨t1, at0⟩ := exo_at I.hok e
  obtain ⟨hp, gs, dr, tk, oz⟩ := s
  refine PySem.W.set_plain I.kIn (ox := { cls := .ref Ca, dict := none, data := .fields #[.ref t1, .none, .none, .none, .bool false, .none] }) (od := none) ⟨at0, rfl, rfl, trivial⟩ T.sa ?_
  refine osaE I.kIn at0 hkd (show rfE (.ref Ca :: c5) = true from hbm) rfl hno fun h1 tk1 dx kp sz ne hx hns => ?_
  have fr : H dx = none := I.hok.fresh sz
  have below : ∀ {b : Addr} {o : Obj}, hp.get? b = some o → b ≠ dx := fun {b o} q z => Nat.lt_irrefl dx (Nat.lt_of_lt_of_le (z ▸ Heap.lt_size q) sz)
  have nota : ∀ {b : Addr}, H b = none → b ≠ a := fun {b} n z => by rw [z, e] at n; cases n
  have U : Un X.fs [] H (upd (upd H dx (exd dx [(fn, y)])) a (exo a Ca (some dx))) hp h1 := by
    refine ⟨fun b o q n _ _ => kp b o (nota n) q, fun b o q n _ _ => ⟨o.slots, kp b o (nota n) q⟩, fun b o q n _ => upd_none (nota n) (upd_none (below q) n), fun b o q _ => ?_, fun b xs q => ?_, fun b o v q => ?_, fun b ps q => ⟨#[], ?_⟩⟩
    · by_cases z : b = a
      · exact ⟨_, z ▸ hx⟩
      · exact ⟨o, kp b o z q⟩
    · rw [upd_ne (at_ne e q exo_tup), upd_ne (ne_of_none q fr), q]
    · rw [upd_ne (at_ne e q exo_frz), upd_ne (ne_of_none q fr), q]
    · rw [upd_ne (at_ne e q exo_tbl), upd_ne (ne_of_none q fr), q]
      simp
  refine h dx _ fr ne (I.un (t' := tk1) U fun b o q => ?_)
  by_cases za : b = a
  · subst za
    rw [upd_same] at q
    cases q
    exact exo_ok hx
  rw [upd_ne za] at q
  by_cases zd : b = dx
  · subst zd
    rw [upd_same] at q
    cases q
    exact exd_ok hns (relO_put (fs := []) ry fun _ => True.intro)
  rw [upd_ne zd] at q
  refine (I.hok b o q).stay (fun c v hc z => kp c v ?_ z) (fun c hc => ?_) fun c xs hc => ?_
  · rcases hc with rfl | hc
    · exact za
    · exact at_ne e hc exo_own
  · rw [upd_ne (at_ne e hc exo_own), upd_ne (ne_of_none hc fr), hc]
  · rw [upd_ne (at_ne e hc exo_tup), upd_ne (ne_of_none hc fr), hc]
/-- Exception.__init__(self, ..): nothing of it is told -/
theorem oinitE {us : List Value} {Q : Value → Shared → Prop} (T : OexE X.K Ca) (I : Inv X pins σ H s) (e : H a = some (exo a Ca none)) (hl : us.length ≤ sizeLine) (h : ∀ s1, Inv X pins σ H s1 → Q .none s1) :
    wpAny (model X.prog X.w) Ar (PySem.call (.builtin "Exception.__init__") (.ref a :: us)) Q E s := by
  obtain ⟨c1, c2, c3, c4, c5, c6, c7, c8, c9, c10, _, _, _, _, _, look, hbm⟩ := T.obj
  obtain ⟨t1, at0⟩ := exo_at I.hok e
  obtain ⟨hp, gs, dr, tk, oz⟩ := s
  refine wpAny_call (PySem.HandSPX.init_base F.excBase_Exception (fun Y => rfE_has Y c5 hbm) (I.kIn _ _ look) at0 hl fun h1 t2 kp hx => ?_)
  have J := I.write (t' := tk) (x := a) (e := a) (o := exo a Ca none) (by rw [e]; exact True.intro) (.inl rfl) kp ⟨_, hx⟩ (exo_ok hx)
  have eq : upd H a (exo a Ca none) = H := funext fun b => by
    by_cases z : b = a
    · rw [z, upd_same, e]
    · rw [upd_ne z]
  exact h _ (eq ▸ J)
end
/-- what an exception's own __init__ does: at the exception a, of the class at Ca, with the fields fs -/
def spX (Ca : Addr) (fs : List Str) : Sp := fun vs H Q _ => ∃ (a : Addr) (us : List V), vs = .ref a :: us ∧ us.length = fs.length ∧ H a = some (exo a Ca none) ∧ (fs = [] → Q .non H) ∧
  ∀ f y, fs = [f] → us = [y] → ∀ dx, H dx = none → dx ≠ a → Q .non (upd (upd H dx (exd dx [(f, y)])) a (exo a Ca (some dx)))
end DL

set_option Elab.async false
set_option linter.all false
set_option maxRecDepth 100000
set_option maxHeartbeats 4000000
namespace DL
open PySem L2

/-! ### the state along a run -/
structure Stp (R : RP) (F : FrD) (σ : St) (ρ : Rho) (H : Hp) (n c : Nat) (ρ' : Rho) (H' : Hp) (n' : Nat) : Prop where
  rl : Rl R F ρ' n' σ H'
  le : n' ≤ n + c
  sub : ∀ a, MM F ρ' σ a → MM F ρ σ a
  ext : ExtM (MM F ρ σ) H H'
section
variable {R : RP} {F : FrD} {σ : St} {ρ ρ' ρ'' : Rho} {H H' H'' : Hp} {n n' n'' c c' : Nat} {v : V} {d : D} {r : Rv} {Q : VK}
theorem Rl.stp (h : Rl R F ρ n σ H) : Stp R F σ ρ H n 0 ρ H n := ⟨h, Nat.le_refl _, fun _ m => m, .refl⟩
theorem Stp.trans (a : Stp R F σ ρ H n c ρ' H' n') (b : Stp R F σ ρ' H' n' c' ρ'' H'' n'') : Stp R F σ ρ H n (c + c') ρ'' H'' n'' :=
  ⟨b.rl, by have := a.le; have := b.le; omega, fun z m => a.sub z (b.sub z m), a.ext.trans b.ext a.sub⟩
theorem Stp.up (a : Stp R F σ ρ H n c ρ' H' n') (h : c ≤ c') : Stp R F σ ρ H n c' ρ' H' n' := ⟨a.rl, by have := a.le; omega, a.sub, a.ext⟩
theorem Rl.stpS (h : Rl R F ρ n σ H) (k : Same H H') : Stp R F σ ρ H n 0 ρ H' n := ⟨h.same k, Nat.le_refl _, fun _ m => m, .of_same k⟩
theorem Stp.same (a : Stp R F σ ρ H n c ρ' H' n') (k : Same H' H'') : Stp R F σ ρ H n c ρ' H'' n' := a.trans (a.rl.stpS k)
theorem Rl.fm (h : Rl R F ρ n σ H) : FreshM (MM F ρ σ) H := fun _ e => h.fresh e
theorem Rl.stpF (h : Rl R F ρ n σ H) {i : Nat} (e : ρ[i]? = some (some (true, d))) : Stp R F σ ρ H n 0 (ρ.set i (some (false, d))) H n :=
  ⟨h.freeze e, Nat.le_refl _, fun _ m => MM.sub_set (fun _ q => by cases q) m, .refl⟩

/-- the value of a reading -/
def RvOk (R : RP) (F : FrD) (ρ : Rho) (σ : St) (H : Hp) (r : Rv) (v : V) : Prop := match r with
  | .pr d => Rep R (MM F ρ σ) H v d
  | .sl i => σ[i]? = some (some v)
theorem RvOk.keep (h : RvOk R F ρ σ H r v) (s : Stp R F σ ρ H n c ρ' H' n') : RvOk R F ρ' σ H' r v := by
  cases r with
  | pr d => exact Rep.keep s.sub s.ext h
  | sl i => exact h
theorem RvOk.use {k : D → Prop} (h : RvOk R F ρ σ H r v) (rl : Rl R F ρ n σ H) (u : useR ρ r k) : ∃ d, Rdb R (MM F ρ σ) H v d ∧ k d := by
  cases r with
  | pr d => exact ⟨d, .inl h, u⟩
  | sl i =>
    simp only [useR] at u
    split at u
    · rename_i b d e
      have h : σ[i]? = some (some v) := h
      cases b with
      | true =>
        obtain ⟨a, e1, w, _⟩ := rl.ow i d e
        rw [h] at e1; cases e1
        exact ⟨d, .inr ⟨a, rfl, w⟩, u⟩
      | false =>
        obtain ⟨a, e1, w⟩ := rl.pv i d e
        rw [h] at e1; cases e1
        exact ⟨d, .inl w, u⟩
    · exact u.elim
theorem RvOk.esc {k : D → Rho → Prop} (h : RvOk R F ρ σ H r v) (rl : Rl R F ρ n σ H) (u : escR ρ r k) : ∃ d ρ', k d ρ' ∧ Stp R F σ ρ H n 0 ρ' H n ∧ Rep R (MM F ρ' σ) H v d := by
  cases r with
  | pr d => exact ⟨d, ρ, u, rl.stp, h⟩
  | sl i =>
    have h : σ[i]? = some (some v) := h
    simp only [escR] at u
    split at u
    · rename_i d e
      have s := rl.stpF e
      obtain ⟨w, e1, q⟩ := s.rl.pv i d (List.getElem?_set_self (List.getElem?_eq_some_iff.mp e).1)
      rw [h] at e1; cases e1
      exact ⟨d, _, u, s, q⟩
    · rename_i d e
      obtain ⟨w, e1, q⟩ := rl.pv i d e
      rw [h] at e1; cases e1
      exact ⟨d, ρ, u, rl.stp, q⟩
    · exact u.elim
def RvsOk (R : RP) (F : FrD) (ρ : Rho) (σ : St) (H : Hp) : List Rv → List V → Prop
  | [], [] => True
  | r :: rs, v :: vs => RvOk R F ρ σ H r v ∧ RvsOk R F ρ σ H rs vs
  | _, _ => False
theorem RvsOk.length : ∀ {rs : List Rv} {vs : List V}, RvsOk R F ρ σ H rs vs → rs.length = vs.length
  | [], [], _ => rfl
  | _ :: _, _ :: _, h => by simp [RvsOk.length h.2]
theorem RvsOk.keep (s : Stp R F σ ρ H n c ρ' H' n') : ∀ {rs : List Rv} {vs : List V}, RvsOk R F ρ σ H rs vs → RvsOk R F ρ' σ H' rs vs
  | [], [], _ => trivial
  | _ :: _, _ :: _, h => ⟨h.1.keep s, RvsOk.keep s h.2⟩
theorem RvsOk.use (rl : Rl R F ρ n σ H) : ∀ {rs : List Rv} {vs : List V} {k : List D → Prop}, RvsOk R F ρ σ H rs vs → useAll ρ rs k → ∃ ds, RdbAll R (MM F ρ σ) H vs ds ∧ k ds
  | [], [], _, _, u => ⟨[], trivial, u⟩
  | _ :: _, _ :: _, _, h, u => by
    obtain ⟨d, r1, u1⟩ := h.1.use rl u
    obtain ⟨ds, r2, u2⟩ := RvsOk.use rl h.2 u1
    exact ⟨d :: ds, ⟨r1, r2⟩, u2⟩
theorem useR_get {i : Nat} {k : D → Prop} (u : useR ρ (.sl i) k) : ∃ b d, ρ[i]? = some (some (b, d)) ∧ k d := by
  simp only [useR] at u
  split at u
  · rename_i b d e; exact ⟨b, d, e, u⟩
  · exact u.elim
/-- the arguments, nothing of which is changed any more -/
theorem freeze_stp : ∀ (rs : List Rv) {ρ : Rho}, Rl R F ρ n σ H → Stp R F σ ρ H n 0 (freezeAll ρ rs) H n
  | [], _, h => h.stp
  | .pr _ :: rs, _, h => freeze_stp rs h
  | .sl i :: rs, ρ, h => by
    simp only [freezeAll]
    split
    · rename_i d e
      have s := h.stpF e
      exact (s.trans (freeze_stp rs s.rl)).up (Nat.le_refl _)
    · exact freeze_stp rs h
/-- what a slot holds stays, but for its mark -/
theorem freeze_get : ∀ (rs : List Rv) {ρ : Rho} {i : Nat} {b : Bool} {d : D}, ρ[i]? = some (some (b, d)) → ∃ b', (b = false → b' = false) ∧ (freezeAll ρ rs)[i]? = some (some (b', d))
  | [], _, _, b, _, e => ⟨b, id, e⟩
  | .pr _ :: rs, _, _, _, _, e => freeze_get rs e
  | .sl j :: rs, ρ, i, b, d, e => by
    simp only [freezeAll]
    split
    · rename_i d' e'
      by_cases q : j = i
      · subst q
        rw [e] at e'
        cases e'
        obtain ⟨b', h1, h2⟩ := freeze_get rs (List.getElem?_set_self (l := ρ) (List.getElem?_eq_some_iff.mp e).1 : (ρ.set j (some (false, d)))[j]? = _)
        exact ⟨b', fun _ => h1 rfl, h2⟩
      · exact freeze_get rs (by rw [List.getElem?_set_ne q]; exact e)
    · exact freeze_get rs e
theorem freeze_all : ∀ (rs : List Rv) {ρ : Rho} {i : Nat} {b : Bool} {d : D}, ρ[i]? = some (some (b, d)) → Rv.sl i ∈ rs → (freezeAll ρ rs)[i]? = some (some (false, d))
  | .pr _ :: rs, _, _, _, _, e, h => freeze_all rs e (by simpa using h)
  | .sl j :: rs, ρ, i, b, d, e, h => by
    simp only [freezeAll]
    by_cases q : j = i
    · subst q
      cases b with
      | true =>
        rw [e]
        obtain ⟨b', h1, h2⟩ := freeze_get rs (List.getElem?_set_self (l := ρ) (List.getElem?_eq_some_iff.mp e).1 : (ρ.set j (some (false, d)))[j]? = _)
        rw [h1 rfl] at h2
        exact h2
      | false =>
        rw [e]
        obtain ⟨b', h1, h2⟩ := freeze_get rs e
        rw [h1 rfl] at h2
        exact h2
    · have h' : Rv.sl i ∈ rs := by
        rcases List.mem_cons.mp h with z | z
        · cases z; exact absurd rfl q
        · exact z
      split
      · exact freeze_all rs (by rw [List.getElem?_set_ne q]; exact e) h'
      · exact freeze_all rs e h'
/-- so they stand for their data in what the callee may read -/
theorem freeze_rep (rl : Rl R F ρ n σ H) : ∀ {rs : List Rv} (all : List Rv) {vs : List V} {k : List D → Prop}, (∀ r ∈ rs, r ∈ all) → RvsOk R F ρ σ H rs vs → useAll ρ rs k → ∃ ds, RepAll R (MM F (freezeAll ρ all) σ) H vs ds ∧ k ds
  | [], _, [], _, _, _, u => ⟨[], .nil, u⟩
  | r :: rs, all, v :: _, k, sub, h, u => by
    have s := freeze_stp (R := R) (F := F) (σ := σ) (H := H) (n := n) all rl
    obtain ⟨d, r1, u1⟩ : ∃ d, Rep R (MM F (freezeAll ρ all) σ) H v d ∧ (useAll ρ rs fun ds => k (d :: ds)) := by
      cases r with
      | pr d => exact ⟨d, Rep.keep s.sub s.ext (show Rep R (MM F ρ σ) H v d from h.1), u⟩
      | sl i =>
        obtain ⟨b, d, e, u⟩ := useR_get u
        obtain ⟨w, e1, q⟩ := s.rl.pv i d (freeze_all all e (sub _ List.mem_cons_self))
        have h1 : σ[i]? = some (some v) := h.1
        rw [h1] at e1; cases e1
        exact ⟨d, q, u⟩
    obtain ⟨ds, r2, u2⟩ := freeze_rep rl all (fun r hr => sub r (List.mem_cons_of_mem _ hr)) h.2 u1
    exact ⟨d :: ds, .cons r1 r2, u2⟩
end

/-! ### exceptions -/
/-- the classes of exceptions, their fields -/
structure XCl where
  cls : Nat → Value
  flds : Nat → List Str
  n : Nat
def XRep (R : RP) (C : XCl) (M : Addr → Prop) (H : Hp) (cls : Value) (d : Option Addr) (c : Nat) (l : List D) : Prop :=
  cls = C.cls c ∧ c < C.n ∧ ((C.flds c = [] ∧ l = []) ∨ ∃ (dx : Addr) (fs : List (Str × V)), d = some dx ∧ ¬ M dx ∧ H dx = some (.xd fs) ∧ fs.map (·.1) = C.flds c ∧ RepAll R M H (fs.map (·.2)) l)
/-- a callee's exceptions are as it is wished -/
def XOk0 (R : RP) (C : XCl) (M : Addr → Prop) (H : Hp) (nb : Nat) (x : Xp) (E : XK) : Prop := ∀ c l cls d H' n', x c l → n' ≤ nb → ExtK R H H' → DeckOk R n' H' → XRep R C M H' cls d c l → E cls d H'
/-- .. a def's own -/
def XOk (R : RP) (C : XCl) (F : FrD) (nb : Nat) (x : Xr) (EX : WX) : Prop := ∀ c l cls d σ ρ' H' n', x c l ρ' → n' ≤ nb → Rl R F ρ' n' σ H' → XRep R C (MM F ρ' σ) H' cls d c l → EX cls d σ H'

/-! ### what a def is promised to do -/
def spP (R : RP) (C : XCl) (B ar fc : Nat) (phi : List D → (D → Prop) → Xp → Prop) : Sp := fun vs H Q E => ∃ (M : Addr → Prop) (ds : List D) (n : Nat) (x : Xp), (∀ a, M a → ∃ o, H a = some o) ∧ (M R.dd ∧ M R.dl) ∧ DeckOk R n H ∧ n + fc ≤ B ∧ ds.length = ar ∧ RepAll R M H vs ds ∧
  XOk0 R C M H (n + fc) x E ∧ phi ds (fun z => ∀ v H' n', n' ≤ n + fc → ExtK R H H' → DeckOk R n' H' → Rep R M H' v z → Q v H') x
theorem spP.len {R : RP} {C : XCl} {B ar fc : Nat} {phi : List D → (D → Prop) → Xp → Prop} {ps : List Str} (hl : ps.length = ar) : ∀ vs H Q E, spP R C B ar fc phi vs H Q E → vs.length = ps.length := fun _ _ _ _ ⟨_, _, _, _, _, _, _, _, l, r, _⟩ => by rw [r.length, l, hl]

/-! ### what holds ahead of a reading -/
structure Pre (R : RP) (C : XCl) (B : Nat) (EX : WX) (F : FrD) (σ : St) (ρ : Rho) (H : Hp) (n c nb : Nat) (x : Xr) : Prop where
  rl : Rl R F ρ n σ H
  le : n + c ≤ nb
  B : nb ≤ B
  xo : XOk R C F nb x EX
section
variable {R : RP} {C : XCl} {B : Nat} {EX : WX} {F : FrD} {σ : St} {ρ ρ' : Rho} {H H' : Hp} {n n' c c' nb : Nat} {x : Xr}
theorem Pre.dn (p : Pre R C B EX F σ ρ H n c nb x) (h : c' ≤ c) : Pre R C B EX F σ ρ H n c' nb x := ⟨p.rl, by have := p.le; omega, p.B, p.xo⟩
theorem Pre.go (p : Pre R C B EX F σ ρ H n c nb x) {c1 : Nat} (s : Stp R F σ ρ H n c1 ρ' H' n') (h : c1 + c' ≤ c) : Pre R C B EX F σ ρ' H' n' c' nb x := ⟨s.rl, by have := p.le; have := s.le; omega, p.B, p.xo⟩
end
section
variable (R : RP) (C : XCl) (Γ : Gm) (B : Nat) (EX : WX)
def tE (e : E) : TE := fun σ H Q => ∃ F ρ n nb x, Pre R C B EX F σ ρ H n (cE Γ e) nb x ∧ wE Γ x e ρ fun r ρ' => ∀ v H' n', Stp R F σ ρ H n (cE Γ e) ρ' H' n' → RvOk R F ρ' σ H' r v → Q v H'
def tT (e : E) : TT := fun σ H Q => ∃ F ρ n nb x, Pre R C B EX F σ ρ H n (cE Γ e) nb x ∧ wT Γ x e ρ fun b ρ' => ∀ H' n', Stp R F σ ρ H n (cE Γ e) ρ' H' n' → Q b H'
def tEs (es : Es) : TA := fun σ H Q => ∃ F ρ n nb x, Pre R C B EX F σ ρ H n (cEs Γ es) nb x ∧ wEs Γ x es ρ fun ds ρ' => ∀ vs H' n', Stp R F σ ρ H n (cEs Γ es) ρ' H' n' → RepAll R (MM F ρ' σ) H' vs ds → Q vs H'
def tAs (es : Es) : TA := fun σ H Q => ∃ F ρ n nb x, Pre R C B EX F σ ρ H n (cEs Γ es) nb x ∧ wAs Γ x es ρ fun rs ρ' => ∀ vs H' n', Stp R F σ ρ H n (cEs Γ es) ρ' H' n' → RvsOk R F ρ' σ H' rs vs → Q vs H'
end
section
variable {R : RP} {C : XCl} {Γ : Gm} {B : Nat} {EX : WX} {X : Cx}
theorem imE {e : Expr} {t t' : TE} (h : PE X e t) (k : ∀ σ H Q, t' σ H Q → t σ H Q) : PE X e t' := ⟨fun pins s σ H Q I q => h.run pins s σ H Q I (k σ H Q q)⟩
theorem imT {e : Expr} {t t' : TT} (h : PT X e t) (k : ∀ σ H Q, t' σ H Q → t σ H Q) : PT X e t' := ⟨fun pins s σ H Q I q => h.run pins s σ H Q I (k σ H Q q)⟩
theorem imA {e : List Expr} {t t' : TA} (h : PA X e t) (k : ∀ σ H Q, t' σ H Q → t σ H Q) : PA X e t' := ⟨fun pos pins s σ H Q I q => h.run pos pins s σ H Q I (k σ H Q q)⟩
theorem imS {e : Stmt} {t t' : TS} (h : PS X e t) (k : ∀ D σ H, t' D σ H → t D σ H) : PS X e t' := ⟨fun pins s σ H D I q => h.run pins s σ H D I (k D σ H q)⟩
theorem imSs {e : List Stmt} {t t' : TS} (h : PSs X e t) (k : ∀ D σ H, t' D σ H → t D σ H) : PSs X e t' := ⟨fun pins s σ H D I q => h.run pins s σ H D I (k D σ H q)⟩
theorem xid (x : Xr) : ∀ c l ρ, x c l ρ → x c l ρ := fun _ _ _ h => h

/-- a value that a rule hands on -/
theorem Stp.out {F : FrD} {σ : St} {ρ ρ' : Rho} {H H' : Hp} {n n' c : Nat} {Q : VK} {z : D} (s : Stp R F σ ρ H n c ρ' H' n') (h : ∀ v H'' n'', Stp R F σ ρ H n c ρ' H'' n'' → RvOk R F ρ' σ H'' (.pr z) v → Q v H'') : Out R (MM F ρ' σ) H' Q z :=
  fun v H'' k r => h v H'' n' (s.same k) r

/-! ### expressions, one by one -/
variable {a b c : Expr} {p q r : E} {pos : Pos}
theorem s_const {v : V} {d : D} {e : E} (hr : ∀ M H, Rep R M H v d) (he : ∀ x ρ Q, wE Γ x e ρ Q → Q (.pr d) ρ) (h : PE X a (tC v)) : PE X a (tE R C Γ B EX e) := imE h fun σ H Q ⟨F, ρ, n, nb, x, P, h⟩ =>
  he _ _ _ h v H n (P.rl.stp.up (Nat.zero_le _)) (hr _ _)
theorem s_var {i : Nat} (h : PE X a (tVar i)) : PE X a (tE R C Γ B EX (.var i)) := imE h fun σ H Q ⟨F, ρ, n, nb, x, P, h⟩ => by
  simp only [wE] at h
  split at h
  · rename_i d e
    obtain ⟨p, e1, _⟩ := P.rl.ow i d e
    exact ⟨_, e1, h _ _ n (P.rl.stp.up (Nat.zero_le _)) e1⟩
  · rename_i d e
    obtain ⟨v, e1, q⟩ := P.rl.pv i d e
    exact ⟨_, e1, h _ _ n (P.rl.stp.up (Nat.zero_le _)) q⟩
  · exact h.elim
/-- two operands -/
theorem s_two {F : FrD} {σ : St} {ρ : Rho} {H : Hp} {n k nb : Nat} {x : Xr} {rr : R2} {Q : VK} {W : Rv → Rv → Rho → Prop} (P : Pre R C B EX F σ ρ H n k nb x) (hk : cE Γ p + cE Γ q ≤ k) (h : wE Γ x p ρ fun r ρ1 => wE Γ x q ρ1 fun s ρ2 => W r s ρ2)
    (hr : ∀ r s ρ2 v u H2 n2, W r s ρ2 → Stp R F σ ρ H n k ρ2 H2 n2 → RvOk R F ρ2 σ H2 r v → RvOk R F ρ2 σ H2 s u → rr v u H2 Q) : tOp rr (tE R C Γ B EX p) (tE R C Γ B EX q) σ H Q :=
  ⟨F, ρ, n, nb, x, P.dn (by omega), wE_mono p (xid x) (fun r ρ1 h v H1 n1 s1 r1 => ⟨F, ρ1, n1, nb, x, P.go s1 (by omega), wE_mono q (xid x) (fun s ρ2 h u H2 n2 s2 r2 =>
    hr r s ρ2 v u H2 n2 h ((s1.trans s2).up hk) (r1.keep s2) r2) h⟩) h⟩
theorem s_bin {op : Operator} (hK : R.K = X.K) (ha : PE X a (tE R C Γ B EX p)) (hb : PE X b (tE R C Γ B EX q)) : PE X (.BinOp a op b pos) (tE R C Γ B EX (.bin op p q)) := imE (pe_op (op_bin hK) ha hb) fun σ H Q ⟨F, ρ, n, nb, x, P, h⟩ => by
  simp only [wE] at h
  refine s_two P (by simp only [cE]; omega) h fun r s ρ2 v u H2 n2 h s2 rv ru => ?_
  obtain ⟨d, r1, h⟩ := rv.use s2.rl h
  obtain ⟨e, r2, h⟩ := ru.use s2.rl h
  exact ⟨_, d, e, s2.rl.fm, r1, r2, dBin_mono (fun z hz => s2.out hz) h⟩
theorem s_cmp {op : CmpOp} (hK : R.K = X.K) (hu : X.A.units + 65 < cLine) (hat : ∀ n, R.atm n ≠ .non) (ha : PE X a (tE R C Γ B EX p)) (hb : PE X b (tE R C Γ B EX q)) (hm : behindInMarks op b = false) : PE X (.Compare a [op] [b] pos) (tE R C Γ B EX (.cmp op p q)) :=
  imE (pe_cmpR (op_cmp hK hu hat) ha hb hm) fun σ H Q ⟨F, ρ, n, nb, x, P, h⟩ => by
  simp only [wE] at h
  refine s_two P (by simp only [cE]; omega) h fun r s ρ2 v u H2 n2 h s2 rv ru => ?_
  obtain ⟨d, r1, h⟩ := rv.use s2.rl h
  obtain ⟨e, r2, h⟩ := ru.use s2.rl h
  exact ⟨_, d, e, r1, r2, dCmp_mono (fun z hz => (s2.out hz).now (.bl z)) h⟩
theorem s_tcmp {op : CmpOp} (hK : R.K = X.K) (hu : X.A.units + 65 < cLine) (hat : ∀ n, R.atm n ≠ .non) (ha : PE X a (tE R C Γ B EX p)) (hb : PE X b (tE R C Γ B EX q)) (hm : behindInMarks op b = false) : PT X (.Compare a [op] [b] pos) (tT R C Γ B EX (.cmp op p q)) :=
  imT (pt_cmpR (op_cmp hK hu hat) ha hb hm) fun σ H Q ⟨F, ρ, n, nb, x, P, h⟩ => by
  simp only [wT] at h
  show tOp (rCmp R op) (tE R C Γ B EX p) (tE R C Γ B EX q) σ H _
  refine s_two P (by simp only [cE]; omega) h fun r s ρ2 v u H2 n2 h s2 rv ru => ?_
  obtain ⟨d, r1, h⟩ := rv.use s2.rl h
  obtain ⟨e, r2, h⟩ := ru.use s2.rl h
  exact ⟨_, d, e, r1, r2, dCmp_mono (fun z hz => ⟨z, rfl, hz _ _ s2⟩) h⟩
end
end DL

set_option Elab.async false
set_option linter.all false
set_option maxRecDepth 100000
set_option maxHeartbeats 4000000
namespace DL
open PySem L2
/-! ### the context -/
/-- the built-in names that the language knows -/
def bltNms : List String := ["len", "all", "any", "repr", "int", "list", "tuple", "str", "isinstance", "range", "zip", "enumerate", "bool", "dict", "set", "sorted", "min", "max", "sum", "abs", "type"]
/-- the keyword calls of a def -/
def KsOk (R : RP) (Γ : Gm) (K : PySem.W.Frag) (fd : FuncData) (ps : List Str) (f : Nat) : Prop := ∀ j, (Γ.ks j).f = f → ∃ g gV dvs, KBn K fd ps (Γ.ks j).np (Γ.ks j).ks g gV ∧ (∀ M H, RepAll R M H dvs (Γ.ks j).dfl) ∧ (∀ i ∈ (Γ.ks j).perm, i < (Γ.ks j).np + (Γ.ks j).ks.length + (Γ.ks j).dfl.length) ∧
      ∀ vs zs, vs.length = (Γ.ks j).np → zs.length = (Γ.ks j).ks.length → gV vs zs = (Γ.ks j).perm.map fun i => (vs ++ zs ++ dvs).getD i .non
/-- the keyword calls of a class -/
def KsOkN (R : RP) (Γ : Gm) (K : PySem.W.Frag) (fd : FuncData) (ps : List Str) (f : Nat) : Prop := ∀ j, (Γ.ks j).f = f → ∃ g gV dvs, KBn K fd ps ((Γ.ks j).np + 1) (Γ.ks j).ks g gV ∧ (∀ M H, RepAll R M H dvs (Γ.ks j).dfl) ∧ (∀ i ∈ (Γ.ks j).perm, i < (Γ.ks j).np + (Γ.ks j).ks.length + (Γ.ks j).dfl.length) ∧
      ∀ s vs zs, vs.length = (Γ.ks j).np → zs.length = (Γ.ks j).ks.length → gV (s :: vs) zs = s :: (Γ.ks j).perm.map fun i => (vs ++ zs ++ dvs).getD i .non
/-- what a class's __init__ is promised to do: the new instance is at xa, empty -/
def spI (R : RP) (C : XCl) (B ar fc c : Nat) (phi : List D → (D → Prop) → Xp → Prop) : Sp := fun vs H Q E => ∃ (M : Addr → Prop) (ds : List D) (n : Nat) (x : Xp) (xa dx : Addr) (us : List V), vs = .ref xa :: us ∧ H xa = some (.ins (R.cls c) dx []) ∧ ¬ M xa ∧ (∀ a, M a → ∃ o, H a = some o) ∧ (M R.dd ∧ M R.dl) ∧ DeckOk R n H ∧ n + fc ≤ B ∧ ds.length = ar ∧ RepAll R (fun a => M a ∨ a = xa) H us ds ∧
  XOk0 R C M H (n + fc) x E ∧ phi ds (fun z => ∀ H' n', n' ≤ n + fc → (∀ a o, a ≠ R.dd → a ≠ R.dl → a ≠ xa → H a = some o → H' a = some o) → DeckOk R n' H' → Rep R M H' (.ref xa) z → Q .non H') x
/-- a def that may be called -/
def FnD0 (R : RP) (C : XCl) (Γ : Gm) (B : Nat) (P : Program) (w : World) (K : PySem.W.Frag) (mg : Str → Option Value) (base : Heap) (m f : Nat) : Prop :=
  ∃ ad fd ps, mg (Γ.fname f) = some (.ref ad) ∧ PySem.W.keepIn K (.ref ad) = true ∧ FnA true P w K mg base (L2.CX P w) (2 * m) ad fd ps (spP R C B (Γ.arity f) (Γ.fcost f) (Γ.phi f)) ∧ ps.length = Γ.arity f ∧ Binds K fd ps [] ∧ KsOk R Γ K fd ps f
/-- a method -/
def FnDm (R : RP) (C : XCl) (Γ : Gm) (B : Nat) (P : Program) (w : World) (K : PySem.W.Frag) (mg : Str → Option Value) (base : Heap) (m f c : Nat) : Prop :=
  ∃ ad fd ps m0, m0 + 1 ≤ 2 * m ∧ Meth K (R.cls c) (Γ.fname f) ad ∧ PySem.W.fnIn K ad = true ∧ FnA true P w K mg base (L2.CX P w) m0 ad fd ps (spP R C B (Γ.arity f) (Γ.fcost f) (Γ.phi f)) ∧ ps.length = Γ.arity f ∧ Binds K fd ps [] ∧ KsOk R Γ K fd ps f
/-- a class that is called -/
def FnDn (R : RP) (C : XCl) (Γ : Gm) (B : Nat) (P : Program) (w : World) (K : PySem.W.Frag) (mg : Str → Option Value) (base : Heap) (m f c : Nat) : Prop :=
  ∃ ad fd ps m0, m0 + 1 ≤ 2 * m ∧ mg (Γ.fname f) = some (.ref (R.cls c)) ∧ Mk K (R.cls c) ad ∧ FnA true P w K mg base (L2.CX P w) m0 ad fd ps (spI R C B (Γ.arity f) (Γ.fcost f) c (Γ.phi f)) ∧ ps.length = Γ.arity f + 1 ∧ Binds K fd ps [] ∧ KsOkN R Γ K fd ps f
/-- a property -/
def FnDp (R : RP) (C : XCl) (Γ : Gm) (B : Nat) (P : Program) (w : World) (K : PySem.W.Frag) (mg : Str → Option Value) (base : Heap) (m f c : Nat) : Prop :=
  ∃ ad pa fd ps m0, m0 + 1 ≤ 2 * m ∧ PropOf K (R.cls c) (Γ.fname f) pa ad ∧ FnA true P w K mg base (L2.CX P w) m0 ad fd ps (spP R C B (Γ.arity f) (Γ.fcost f) (Γ.phi f)) ∧ ps.length = Γ.arity f ∧ Binds K fd ps []
/-- a classmethod -/
def FnDc (R : RP) (C : XCl) (Γ : Gm) (B : Nat) (P : Program) (w : World) (K : PySem.W.Frag) (mg : Str → Option Value) (base : Heap) (m f c : Nat) : Prop :=
  ∃ ad pa mc fd ps, mg (Γ.cnm c) = some (.ref (R.cls c)) ∧ ClX.CRead K (R.cls c) mc ∧ ClX.CMet K (R.cls c) mc (Γ.fname f) pa ad ∧ FnA true P w K mg base (L2.CX P w) (2 * m) ad fd ps (spP R C B (Γ.arity f) (Γ.fcost f) (Γ.phi f)) ∧ ps.length = Γ.arity f ∧ Binds K fd ps [] ∧ KsOk R Γ K fd ps f
/-- an exception's own __init__ -/
def FnDx (C : XCl) (Γ : Gm) (P : Program) (w : World) (K : PySem.W.Frag) (mg : Str → Option Value) (base : Heap) (m c : Nat) : Prop :=
  ∃ ad Ca fd ps m0, m0 + 1 ≤ 2 * m ∧ C.cls c = .ref Ca ∧ OexE K Ca ∧ PySem.W.findIn K (.ref Ca) "__init__" = some (some (.ref ad)) ∧ PySem.W.typeIn K (.ref ad) = some (.type "function") ∧
    FnA true P w K mg base (L2.CX P w) m0 ad fd ps (spX Ca (Γ.exf c)) ∧ ps.length = (Γ.exf c).length + 1 ∧ Binds K fd ps []
def FnD (R : RP) (C : XCl) (Γ : Gm) (B : Nat) (P : Program) (w : World) (K : PySem.W.Frag) (mg : Str → Option Value) (base : Heap) (m f : Nat) : Prop := match Γ.fk f with
  | .fn => FnD0 R C Γ B P w K mg base m f
  | .mth c => FnDm R C Γ B P w K mg base m f c
  | .new c => FnDn R C Γ B P w K mg base m f c
  | .prp c => FnDp R C Γ B P w K mg base m f c
  | .cm c => FnDc R C Γ B P w K mg base m f c
  | .xi c => FnDx C Γ P w K mg base m c
/-- a class of the program's own -/
def clTys : List String := ["NoneType", "bool", "int", "str", "list", "tuple", "dict"]
structure COk (R : RP) (Γ : Gm) (K : PySem.W.Frag) (mg : Str → Option Value) (c : Nat) : Prop where
  cls : Cls K (R.cls c)
  fl : R.flds c = Γ.cfl c
  nd : (Γ.cfl c).Nodup
  na : ∀ nm ∈ Γ.cfl c, NoAttr K (R.cls c) nm
  at_ : R.atm (2 * c + 2) = .ref (R.cls c)
  sf : PySem.W.selfFirst K (R.cls c) = true
  gl : mg (Γ.cnm c) = some (.ref (R.cls c))
  ic : C8.InsC K (R.cls c)
  nk : ∀ T, T ∈ clTys → PySem.W.kitOne K (.type T) (.ref (R.cls c)) = some false
  ob : PySem.W.mroIn K (R.cls c) (.type "object") = some true
  ne : PySem.W.findIn K (.ref (R.cls c)) "__ne__" = some (some (.builtin "object.__ne__"))
/-- an exception's class -/
structure EOk (C : XCl) (Γ : Gm) (K : PySem.W.Frag) (mg : Str → Option Value) (c : Nat) : Prop where
  cls : ∃ a, C.cls c = .ref a ∧ mg (Γ.exn c) = some (.ref a) ∧ XfC K a ∧ ∀ f ∈ Γ.exf c, PySem.W.findIn K (.ref a) f = some none
  fl : C.flds c = Γ.exf c
  exm : ∀ k, k < Γ.nx → PySem.W.exmOne K (C.cls k) (C.cls c) = some (Γ.exm k c)
structure Ctx (R : RP) (C : XCl) (Γ : Gm) (B m ng : Nat) (EX : WX) (N : List Str) (sc : Scope) (fb : Str → Bool) (X : Cx) : Prop where
  eN : X.N = N
  nd : N.Nodup
  esc : X.env.scope = sc
  eK : R.K = X.K
  calm : X.calm = true
  room : Room (2 * m) X.A
  gd : X.A.guards = some []
  hat : ∀ n, R.atm n ≠ .non
  sys : SysOk X.K
  tk : Takes X EX
  fns : ∀ f, f < m → FnD R C Γ B X.prog X.w X.K X.mg X.base m f
  cl : ∀ c, c < Γ.ncl → COk R Γ X.K X.mg c
  glb : ∀ g, g < ng → ∃ u v, X.mg (Γ.gname g) = some u ∧ RelV v u ∧ ∀ M H, Rep R M H v (Γ.gD g)
  bl : ∀ id, id ∈ bltNms → X.mg (Str.ofString id) = none
  en : C.n = Γ.nx
  xs : ∀ c, c < Γ.nx → EOk C Γ X.K X.mg c
  fnc : ∀ x, fb x = true → X.fn x = true
section
variable {R : RP} {C : XCl} {Γ : Gm} {B m ng : Nat} {EX : WX} {N : List Str} {sc : Scope} {fb : Str → Bool} {X : Cx} {F : FrD} {σ : St} {ρ ρ' : Rho} {H H' : Hp} {n n' c nb : Nat}
theorem Ctx.units (k : Ctx R C Γ B m ng EX N sc fb X) : X.A.units + 65 < cLine := by have := k.room.un; omega
theorem Ctx.pas (k : Ctx R C Γ B m ng EX N sc fb X) (σ : St) : PasA (L2.CX X.prog X.w) X σ (wat EX σ) := fun _ _ _ e s' I c => k.tk e s' (XE.of_call I (fun _ _ _ h => h) c)
theorem pas0 (σ : St) : PasA (L2.CX X.prog X.w) X σ (fun _ _ _ => False) := fun _ _ _ e s' I c => by
  obtain ⟨_, _, _, _, _, _, _, _, _, _, _, _, z⟩ := c
  exact z.elim
theorem Ctx.blk (k : Ctx R C Γ B m ng EX N sc fb X) {s : Shared} {scope : Scope} {cl : List (Str × Addr)} {A : Addr} {fp : List Addr} : Ctx R C Γ B m ng (fun _ _ _ _ => False) N (relS scope sc) (fun x => scope.names.lookup x == some .cell) (X.blk s H scope (compEnvC scope cl A X.env) fp) :=
  ⟨k.eN, k.nd, by rw [← k.esc]; rfl, k.eK, k.calm, k.room, k.gd, k.hat, k.sys, takes0, k.fns, k.cl, k.glb, k.bl, k.en, k.xs, fun _ h => h⟩

theorem pw_of {op : BoolOp} {vs : List Expr} {pos : Pos} {t : TT} (h : PT X (.BoolOp op vs pos) t) : PW X (.BoolOp op vs pos) t := ⟨fun whole pins s σ H Q I q => by
  have := h.run pins s σ H Q I q
  rw [show PySem.isTrue (.BoolOp op vs pos) X.env whole = PySem.isTrue (.BoolOp op vs pos) X.env (eval (.BoolOp op vs pos) X.env) by unfold PySem.isTrue; rfl]
  exact this⟩

variable {a b e1 : Expr} {es : List Expr} {p q r : E} {pos : Pos}
/-- one operand -/
theorem s_one {x : Xr} {k : Nat} {W : Rv → Rho → Prop} {Q : VK} (P : Pre R C B EX F σ ρ H n k nb x) (hk : cE Γ p ≤ k) (h : wE Γ x p ρ W)
    (hr : ∀ r ρ1 v H1 n1, W r ρ1 → Stp R F σ ρ H n k ρ1 H1 n1 → RvOk R F ρ1 σ H1 r v → Q v H1) : tE R C Γ B EX p σ H Q :=
  ⟨F, ρ, n, nb, x, P.dn hk, wE_mono p (xid x) (fun r ρ1 h v H1 n1 s1 r1 => hr r ρ1 v H1 n1 h (s1.up hk) r1) h⟩
theorem s_neg (ha : PE X a (tE R C Γ B EX p)) : PE X (.UnaryOp .USub a pos) (tE R C Γ B EX (.neg p)) := imE (pe_un un_neg ha) fun σ H Q ⟨F, ρ, n, nb, x, P, h⟩ => by
  simp only [wE] at h
  refine s_one P (by simp only [cE]; omega) h fun r ρ1 v H1 n1 h s1 r1 => ?_
  obtain ⟨d, r1, i, rfl, h⟩ := r1.use s1.rl h
  cases r1.int
  exact ⟨i, rfl, (s1.out h).now (.int _)⟩
theorem s_not (hK : R.K = X.K) (ha : PE X a (tE R C Γ B EX p)) : PE X (.UnaryOp .Not a pos) (tE R C Γ B EX (.not p)) := imE (pe_notT ha) fun σ H Q ⟨F, ρ, n, nb, x, P, h⟩ => by
  simp only [wE] at h
  refine s_one P (by simp only [cE]; omega) h fun r ρ1 v H1 n1 h s1 r1 => ?_
  obtain ⟨d, r1, z, e, h⟩ := r1.use s1.rl h
  exact ⟨z, hK ▸ tru_of r1 e, (s1.out h).now (.bl _)⟩
theorem s_and (hK : R.K = X.K) (ha : PE X a (tE R C Γ B EX p)) (hb : PE X (.BoolOp .And (b :: es) pos) (tE R C Γ B EX q)) : PE X (.BoolOp .And (a :: b :: es) pos) (tE R C Γ B EX (.and p q)) :=
  imE (pe_andT ha hb) fun σ H Q ⟨F, ρ, n, nb, x, P, h⟩ => by
  simp only [wE] at h
  simp only [cE] at P h
  refine ⟨F, ρ, n, nb, x, P.dn (Nat.le_add_right _ _), wE_mono p (xid x) (fun r ρ1 h v H1 n1 s1 r1 => ?_) h⟩
  obtain ⟨d, r1', z, e, h⟩ := r1.use s1.rl h
  refine ⟨z, hK ▸ tru_of r1' e, ?_⟩
  split
  · rename_i hz
    rw [if_pos hz] at h
    exact ⟨F, ρ1, n1, nb, x, P.go s1 (Nat.le_refl _), wE_mono q (xid x) (fun r ρ2 h v H2 n2 s2 r2 => h v H2 n2 (s1.trans s2) r2) h⟩
  · rename_i hz
    rw [if_neg hz] at h
    exact h v H1 n1 (s1.up (Nat.le_add_right _ _)) r1
theorem s_or (hK : R.K = X.K) (ha : PE X a (tE R C Γ B EX p)) (hb : PE X (.BoolOp .Or (b :: es) pos) (tE R C Γ B EX q)) : PE X (.BoolOp .Or (a :: b :: es) pos) (tE R C Γ B EX (.or p q)) :=
  imE (pe_orT ha hb) fun σ H Q ⟨F, ρ, n, nb, x, P, h⟩ => by
  simp only [wE] at h
  simp only [cE] at P h
  refine ⟨F, ρ, n, nb, x, P.dn (Nat.le_add_right _ _), wE_mono p (xid x) (fun r ρ1 h v H1 n1 s1 r1 => ?_) h⟩
  obtain ⟨d, r1', z, e, h⟩ := r1.use s1.rl h
  refine ⟨z, hK ▸ tru_of r1' e, ?_⟩
  split
  · rename_i hz
    rw [if_pos hz] at h
    exact h v H1 n1 (s1.up (Nat.le_add_right _ _)) r1
  · rename_i hz
    rw [if_neg hz] at h
    exact ⟨F, ρ1, n1, nb, x, P.go s1 (Nat.le_refl _), wE_mono q (xid x) (fun r ρ2 h v H2 n2 s2 r2 => h v H2 n2 (s1.trans s2) r2) h⟩
theorem chain_core {o1 o2 : CmpOp} {Q : VK} {x : Xr} (P : Pre R C B EX F σ ρ H n (cE Γ p + cE Γ q + cE Γ r) nb x)
    (h : wE Γ x p ρ fun r1 ρ1 => wE Γ x q ρ1 fun s ρ2 => useR ρ2 r1 fun d => useR ρ2 s fun e => dCmp o1 d e fun z =>
      if z = true then wE Γ x r ρ2 fun t ρ3 => useR ρ3 s fun e => useR ρ3 t fun f => dCmp o2 e f fun y => ∀ H' n', Stp R F σ ρ H n (cE Γ p + cE Γ q + cE Γ r) ρ3 H' n' → Q (.bl y) H' else ∀ H' n', Stp R F σ ρ H n (cE Γ p + cE Γ q + cE Γ r) ρ2 H' n' → Q (.bl false) H') :
    tChain (rCmp R o1) (rCmp R o2) (tE R C Γ B EX p) (tE R C Γ B EX q) (tE R C Γ B EX r) σ H Q := by
  refine ⟨F, ρ, n, nb, x, P.dn (by omega), wE_mono p (xid x) (fun r1 ρ1 h v H1 n1 s1 k1 => ?_) h⟩
  refine ⟨F, ρ1, n1, nb, x, P.go s1 (by omega), wE_mono q (xid x) (fun r2 ρ2 h u H2 n2 s2 k2 => ?_) h⟩
  have s12 := s1.trans s2
  obtain ⟨d, m1, h⟩ := (k1.keep s2).use s2.rl h
  obtain ⟨e, m2, h⟩ := k2.use s2.rl h
  refine ⟨_, d, e, m1, m2, dCmp_mono (fun z h => ⟨z, rfl, ?_⟩) h⟩
  split
  · rename_i hz
    rw [if_pos hz] at h
    refine ⟨F, ρ2, n2, nb, x, P.go s12 (by omega), wE_mono r (xid x) (fun r3 ρ3 h w H3 n3 s3 k3 => ?_) h⟩
    obtain ⟨e', m2', h⟩ := (k2.keep s3).use s3.rl h
    obtain ⟨f, m3, h⟩ := k3.use s3.rl h
    exact ⟨_, e', f, m2', m3, dCmp_mono (fun y h => h H3 n3 (s12.trans s3)) h⟩
  · rename_i hz
    rw [if_neg hz] at h
    exact h H2 n2 (s12.up (by omega))
theorem s_cmp2 {c : Expr} {o1 o2 : CmpOp} (k : Ctx R C Γ B m ng EX N sc fb X) (ha : PE X a (tE R C Γ B EX p)) (hb : PE X b (tE R C Γ B EX q)) (hc : PE X c (tE R C Γ B EX r)) (hm : lastMarks [o1, o2] [b, c] = false) :
    PE X (.Compare a [o1, o2] [b, c] pos) (tE R C Γ B EX (.cmp2 o1 o2 p q r)) := imE (pe_chain (op_cmp k.eK k.units k.hat) (op_cmp k.eK k.units k.hat) ha hb hc hm) fun σ H Q ⟨F, ρ, n, nb, x, P, h⟩ => by
  simp only [wE] at h
  simp only [cE] at P h
  refine chain_core P (wE_mono p (xid x) (fun r1 ρ1 h => wE_mono q (xid x) (fun s ρ2 h => useR_mono (fun d h => useR_mono (fun e h => dCmp_mono (fun z h => ?_) h) h) h) h) h)
  refine ite_mono (fun h => wE_mono r (xid x) (fun t ρ3 h => useR_mono (fun d h => useR_mono (fun e h => dCmp_mono (fun z h => ?_) h) h) h) h) (fun h => ?_) h
  · exact fun H' n' s => (s.out h).now (.bl _)
  · exact fun H' n' s => (s.out h).now (.bl _)
theorem s_tcmp2 {c : Expr} {o1 o2 : CmpOp} (k : Ctx R C Γ B m ng EX N sc fb X) (ha : PE X a (tE R C Γ B EX p)) (hb : PE X b (tE R C Γ B EX q)) (hc : PE X c (tE R C Γ B EX r)) (hm : lastMarks [o1, o2] [b, c] = false) :
    PT X (.Compare a [o1, o2] [b, c] pos) (tT R C Γ B EX (.cmp2 o1 o2 p q r)) := imT (pt_chain (op_cmp k.eK k.units k.hat) (op_cmp k.eK k.units k.hat) ha hb hc hm) fun σ H Q ⟨F, ρ, n, nb, x, P, h⟩ => by
  simp only [wT] at h
  simp only [cE] at P h
  show tChain (rCmp R o1) (rCmp R o2) (tE R C Γ B EX p) (tE R C Γ B EX q) (tE R C Γ B EX r) σ H _
  refine chain_core P (wE_mono p (xid x) (fun r1 ρ1 h => wE_mono q (xid x) (fun s ρ2 h => useR_mono (fun d h => useR_mono (fun e h => dCmp_mono (fun z h => ?_) h) h) h) h) h)
  refine ite_mono (fun h => wE_mono r (xid x) (fun t ρ3 h => useR_mono (fun d h => useR_mono (fun e h => dCmp_mono (fun z h => ?_) h) h) h) h) (fun h => ?_) h
  · exact fun H' n' s => ⟨_, rfl, h H' n' s⟩
  · exact fun H' n' s => ⟨_, rfl, h H' n' s⟩
theorem s_ite {c : Expr} (hc : PT X c (tT R C Γ B EX r)) (ha : PE X a (tE R C Γ B EX p)) (hb : PE X b (tE R C Γ B EX q)) : PE X (.IfExp c a b pos) (tE R C Γ B EX (.ite r p q)) := imE (pe_ifExp hc ha hb) fun σ H Q ⟨F, ρ, n, nb, x, P, h⟩ => by
  simp only [wE] at h
  simp only [cE] at P h
  refine ⟨F, ρ, n, nb, x, P.dn (by omega), wT_mono r (xid x) (fun z ρ1 h H1 n1 s1 => ?_) h⟩
  dsimp only
  split
  · rename_i hz
    rw [if_pos hz] at h
    exact ⟨F, ρ1, n1, nb, x, P.go s1 (by omega), wE_mono p (xid x) (fun r ρ2 h v H2 n2 s2 r2 => h v H2 n2 ((s1.trans s2).up (by omega)) r2) h⟩
  · rename_i hz
    rw [if_neg hz] at h
    exact ⟨F, ρ1, n1, nb, x, P.go s1 (by omega), wE_mono q (xid x) (fun r ρ2 h v H2 n2 s2 r2 => h v H2 n2 ((s1.trans s2).up (by omega)) r2) h⟩
/-! tests -/
theorem t_not (ha : PT X a (tT R C Γ B EX p)) : PT X (.UnaryOp .Not a pos) (tT R C Γ B EX (.not p)) := imT (pt_not ha) fun σ H Q ⟨F, ρ, n, nb, x, P, h⟩ => by
  simp only [wT] at h
  simp only [cE] at P h
  exact ⟨F, ρ, n, nb, x, P, h⟩
theorem t_and (ha : PT X a (tT R C Γ B EX p)) (hb : PT X (.BoolOp .And (b :: es) pos) (tT R C Γ B EX q)) : PT X (.BoolOp .And (a :: b :: es) pos) (tT R C Γ B EX (.and p q)) := imT (pw_and ha (pw_of hb)).pt fun σ H Q ⟨F, ρ, n, nb, x, P, h⟩ => by
  simp only [wT] at h
  simp only [cE] at P h
  refine ⟨F, ρ, n, nb, x, P.dn (by omega), wT_mono p (xid x) (fun z ρ1 h H1 n1 s1 => ?_) h⟩
  dsimp only
  split
  · rename_i hz
    rw [if_pos hz] at h
    exact ⟨F, ρ1, n1, nb, x, P.go s1 (by omega), wT_mono q (xid x) (fun r ρ2 h H2 n2 s2 => h H2 n2 ((s1.trans s2).up (by omega))) h⟩
  · rename_i hz
    rw [if_neg hz] at h
    exact h H1 n1 (s1.up (by omega))
theorem t_or (ha : PT X a (tT R C Γ B EX p)) (hb : PT X (.BoolOp .Or (b :: es) pos) (tT R C Γ B EX q)) : PT X (.BoolOp .Or (a :: b :: es) pos) (tT R C Γ B EX (.or p q)) := imT (pw_or ha (pw_of hb)).pt fun σ H Q ⟨F, ρ, n, nb, x, P, h⟩ => by
  simp only [wT] at h
  simp only [cE] at P h
  refine ⟨F, ρ, n, nb, x, P.dn (by omega), wT_mono p (xid x) (fun z ρ1 h H1 n1 s1 => ?_) h⟩
  dsimp only
  split
  · rename_i hz
    rw [if_pos hz] at h
    exact h H1 n1 (s1.up (by omega))
  · rename_i hz
    rw [if_neg hz] at h
    exact ⟨F, ρ1, n1, nb, x, P.go s1 (by omega), wT_mono q (xid x) (fun r ρ2 h H2 n2 s2 => h H2 n2 ((s1.trans s2).up (by omega))) h⟩
theorem t_and1 (ha : PT X a (tT R C Γ B EX p)) : PT X (.BoolOp .And [a] pos) (tT R C Γ B EX p) := (pw_and1 ha).pt
theorem t_or1 (ha : PT X a (tT R C Γ B EX p)) : PT X (.BoolOp .Or [a] pos) (tT R C Γ B EX p) := (pw_or1 ha).pt
/-- the test of a value -/
theorem t_val (hK : R.K = X.K) (ha : PE X a (tE R C Γ B EX p)) (he : ∀ whole, PySem.isTrue a X.env whole = (do let v ← whole; standAt a.pos; holding [v] (truthy v)))
    (hw : ∀ x ρ Q, wT Γ x p ρ Q = wE Γ x p ρ fun r ρ1 => useR ρ1 r fun d => ∃ b, d.truth = some b ∧ Q b ρ1) : PT X a (tT R C Γ B EX p) := imT (pt_truth ha he) fun σ H Q ⟨F, ρ, n, nb, x, P, h⟩ => by
  rw [hw] at h
  show tE R C Γ B EX p σ H _
  refine s_one P (Nat.le_refl _) h fun r ρ1 v H1 n1 h s1 r1 => ?_
  obtain ⟨d, r1, z, e, h⟩ := r1.use s1.rl h
  exact ⟨z, hK ▸ tru_of r1 e, h H1 n1 s1⟩
end
end DL

set_option Elab.async false
set_option linter.all false
set_option maxRecDepth 100000
set_option maxHeartbeats 4000000
namespace DL
open PySem L2
section
variable {R : RP} {C : XCl} {Γ : Gm} {B m ng : Nat} {EX : WX} {N : List Str} {sc : Scope} {fb : Str → Bool} {X : Cx} {F : FrD} {σ : St} {ρ ρ' : Rho} {H H' : Hp} {n n' c nb : Nat}
variable {a b e1 : Expr} {es : List Expr} {p q r : E} {ps : Es} {pos : Pos}
/-! ### argument lists, displays -/
theorem s_es0 : PA X [] (tEs R C Γ B EX .nil) := imA pa_nil fun σ H Q ⟨F, ρ, n, nb, x, P, h⟩ => by
  simp only [wEs] at h
  exact h [] H n (P.rl.stp.up (Nat.zero_le _)) .nil
theorem s_es1 (ha : PE X a (tE R C Γ B EX p)) (hr : PA X es (tEs R C Γ B EX ps)) (hs : starEach (a :: es) X.env = (false, eval a X.env) :: starEach es X.env) : PA X (a :: es) (tEs R C Γ B EX (.cons p ps)) := imA (pa_cons ha hr hs) fun σ H Q ⟨F, ρ, n, nb, x, P, h⟩ => by
  simp only [wEs] at h
  simp only [cEs] at P h
  refine ⟨F, ρ, n, nb, x, P.dn (by omega), wE_mono p (xid x) (fun r ρ1 h v H1 n1 s1 r1 => ?_) h⟩
  obtain ⟨d, ρ2, h, s2, r2⟩ := r1.esc s1.rl h
  refine ⟨F, ρ2, n1, nb, x, P.go (s1.trans s2) (by omega), wEs_mono ps (xid x) (fun ds ρ3 h vs H3 n3 s3 r3 => ?_) h⟩
  exact h _ H3 n3 (((s1.trans s2).trans s3).up (by omega)) (.cons (r2.keep s3.sub s3.ext) r3)
theorem s_as0 : PA X [] (tAs R C Γ B EX .nil) := imA pa_nil fun σ H Q ⟨F, ρ, n, nb, x, P, h⟩ => by
  simp only [wAs] at h
  exact h [] H n (P.rl.stp.up (Nat.zero_le _)) True.intro
theorem s_as1 (ha : PE X a (tE R C Γ B EX p)) (hr : PA X es (tAs R C Γ B EX ps)) (hs : starEach (a :: es) X.env = (false, eval a X.env) :: starEach es X.env) : PA X (a :: es) (tAs R C Γ B EX (.cons p ps)) := imA (pa_cons ha hr hs) fun σ H Q ⟨F, ρ, n, nb, x, P, h⟩ => by
  simp only [wAs] at h
  simp only [cEs] at P h
  refine ⟨F, ρ, n, nb, x, P.dn (by omega), wE_mono p (xid x) (fun r ρ1 h v H1 n1 s1 r1 => ?_) h⟩
  refine ⟨F, ρ1, n1, nb, x, P.go s1 (by omega), wAs_mono ps (xid x) (fun rs ρ2 h vs H2 n2 s2 r2 => ?_) h⟩
  exact h _ H2 n2 ((s1.trans s2).up (by omega)) ⟨r1.keep s2, r2⟩
theorem s_tup {k : Nat} (h : PA X es (tEs R C Γ B EX ps)) : PE X (.Tuple es k pos) (tE R C Γ B EX (.tup ps)) := imE (pe_tup h) fun σ H Q ⟨F, ρ, n, nb, x, P, h⟩ => by
  simp only [wE] at h
  simp only [cE] at P h
  refine ⟨F, ρ, n, nb, x, P, wEs_mono ps (xid x) (fun ds ρ1 h vs H1 n1 s1 r1 => ?_) h⟩
  exact ⟨by rw [r1.length]; exact h.1, (s1.out h.2).tup s1.rl.fm r1 (by rw [r1.length]; exact h.1)⟩
theorem s_lst (h : PA X es (tEs R C Γ B EX ps)) : PE X (.List es pos) (tE R C Γ B EX (.lst ps)) := imE (pe_lst h) fun σ H Q ⟨F, ρ, n, nb, x, P, h⟩ => by
  simp only [wE] at h
  simp only [cE] at P h
  refine ⟨F, ρ, n, nb, x, P, wEs_mono ps (xid x) (fun ds ρ1 h vs H1 n1 s1 r1 => ?_) h⟩
  exact ⟨by rw [r1.length]; exact h.1, (s1.out h.2).lst s1.rl.fm r1 (by rw [r1.length]; exact h.1)⟩
theorem s_dct0 : PE X (.Dict [] [] pos) (tE R C Γ B EX .dct0) := imE pe_dnewK fun σ H Q ⟨F, ρ, n, nb, x, P, h⟩ a ha => by
  simp only [wE] at h
  simp only [cE] at P h
  exact P.rl.stp.out h _ _ (Same.alloc ha) (.dct (P.rl.fresh ha) upd_same (Nat.zero_le _) .nil .nil)
/-! ### subscripts -/
theorem s_ix (hK : R.K = X.K) (ha : PE X a (tE R C Γ B EX p)) (hb : PE X b (tE R C Γ B EX q)) (hs : PlainIx b) : PE X (.Subscript a b pos) (tE R C Γ B EX (.ix p q)) := imE (pe_ix (ix_D hK) ha hb hs) fun σ H Q ⟨F, ρ, n, nb, x, P, h⟩ => by
  simp only [wE] at h
  refine s_two P (by simp only [cE]; omega) h fun r s ρ2 v u H2 n2 h s2 rv ru => ?_
  obtain ⟨d, r1, h⟩ := rv.use s2.rl h
  obtain ⟨e, r2, h⟩ := ru.use s2.rl h
  exact ⟨_, d, e, s2.rl.fm, r1, r2, dIx_mono (fun z hz => s2.out hz) h⟩
theorem s_slL {p2 : Pos} (hK : R.K = X.K) (ha : PE X a (tE R C Γ B EX p)) (hb : PE X b (tE R C Γ B EX q)) : PE X (.Subscript a (.Slice (some b) none none p2) pos) (tE R C Γ B EX (.slL p q)) := imE (pe_slice (sl_D hK) ha (po_some hb) po_none) fun σ H Q ⟨F, ρ, n, nb, x, P, h⟩ => by
  simp only [wE] at h
  simp only [cE] at P h
  refine ⟨F, ρ, n, nb, x, P.dn (by omega), wE_mono p (xid x) (fun r ρ1 h v H1 n1 s1 r1 => ?_) h⟩
  refine ⟨F, ρ1, n1, nb, x, P.go s1 (by omega), wE_mono q (xid x) (fun s ρ2 h u H2 n2 s2 r2 => ?_) h⟩
  obtain ⟨d, m1, h⟩ := (r1.keep s2).use s2.rl h
  obtain ⟨e, m2, i, rfl, h⟩ := r2.use s2.rl h
  cases m2.int
  exact ⟨i, rfl, _, d, s2.rl.fm, m1, dSl_mono (fun z hz => (s1.trans s2).out hz) h⟩
theorem s_slU {p2 : Pos} (hK : R.K = X.K) (ha : PE X a (tE R C Γ B EX p)) (hb : PE X b (tE R C Γ B EX q)) : PE X (.Subscript a (.Slice none (some b) none p2) pos) (tE R C Γ B EX (.slU p q)) := imE (pe_slice (sl_D hK) ha po_none (po_some hb)) fun σ H Q ⟨F, ρ, n, nb, x, P, h⟩ => by
  simp only [wE] at h
  simp only [cE] at P h
  refine ⟨F, ρ, n, nb, x, P.dn (by omega), wE_mono p (xid x) (fun r ρ1 h v H1 n1 s1 r1 => ?_) h⟩
  refine ⟨F, ρ1, n1, nb, x, P.go s1 (by omega), wE_mono q (xid x) (fun s ρ2 h u H2 n2 s2 r2 => ?_) h⟩
  obtain ⟨d, m1, h⟩ := (r1.keep s2).use s2.rl h
  obtain ⟨e, m2, i, rfl, h⟩ := r2.use s2.rl h
  cases m2.int
  exact ⟨i, rfl, _, d, s2.rl.fm, m1, dSl_mono (fun z hz => (s1.trans s2).out hz) h⟩
theorem s_slLU {c : Expr} {p2 : Pos} (hK : R.K = X.K) (ha : PE X a (tE R C Γ B EX p)) (hb : PE X b (tE R C Γ B EX q)) (hc : PE X c (tE R C Γ B EX r)) : PE X (.Subscript a (.Slice (some b) (some c) none p2) pos) (tE R C Γ B EX (.slLU p q r)) := imE (pe_slice (sl_D hK) ha (po_some hb) (po_some hc)) fun σ H Q ⟨F, ρ, n, nb, x, P, h⟩ => by
  simp only [wE] at h
  simp only [cE] at P h
  refine ⟨F, ρ, n, nb, x, P.dn (by omega), wE_mono p (xid x) (fun r1 ρ1 h v H1 n1 s1 k1 => ?_) h⟩
  refine ⟨F, ρ1, n1, nb, x, P.go s1 (by omega), wE_mono q (xid x) (fun s ρ2 h u H2 n2 s2 k2 => ?_) h⟩
  obtain ⟨e, m2, i, rfl, h⟩ := k2.use s2.rl h
  cases m2.int
  refine ⟨i, rfl, F, ρ2, n2, nb, x, P.go (s1.trans s2) (by omega), wE_mono r (xid x) (fun t ρ3 h w H3 n3 s3 k3 => ?_) h⟩
  obtain ⟨d, m1, h⟩ := (k1.keep (s2.trans s3)).use s3.rl h
  obtain ⟨f, m3, j, rfl, h⟩ := k3.use s3.rl h
  cases m3.int
  exact ⟨j, rfl, _, d, s3.rl.fm, m1, dSl_mono (fun z hz => ((s1.trans s2).trans s3).out hz) h⟩
end
end DL

set_option Elab.async false
set_option linter.all false
set_option maxRecDepth 100000
set_option maxHeartbeats 4000000
namespace DL
open PySem L2
/-! ### x[::-1] -/
def tRevD (R : RP) (te : TE) : TE := fun σ H Q => te σ H fun x H1 => ∃ M d, FreshM M H1 ∧ Rdb R M H1 x d ∧ match d with
  | .lst xs => Out R M H1 Q (.lst xs.reverse)
  | .str y => Out R M H1 Q (.str ⟨y.cps.reverse⟩)
  | _ => False
theorem rev_pick (y : Str) : (⟨((Builtin.Str.strSliceIndices none none (-1) y.length).filterMap (y.cps[·]?)).toArray⟩ : Str) = ⟨y.cps.reverse⟩ := by
  have e : Builtin.Str.strSliceIndices none none (-1) y.length = sliceRange ((y.cps.size : Int) - 1) (-1) (-1) := rfl
  rw [e, PySem.W.krv_sliceRange, PySem.W.krv_range, List.filterMap_reverse, PySem.W.krv_all]
  exact congrArg Str.mk (Array.toList_inj.mp (by simp))
theorem SOk.rev {y : Str} (h : SOk y) : SOk ⟨y.cps.reverse⟩ := .mk (by have := h.1; simpa [Str.length] using this) fun c hc => h.lt c (by simpa using hc)
theorem pe_revD {R : RP} {X : Cx} {e : Expr} {te : TE} {k : Nat} {p1 p2 p3 pos : Pos} (he : PE X e te) : PE X (.Subscript e (.Slice none none (some (.UnaryOp .USub (.Constant (.int 1) k p1) p2)) p3) pos) (tRevD R te) := by
  refine ⟨fun pins s σ H Q I h => ?_⟩
  refine PyProof.Rows.Subscript_ (thn (he.run pins s σ H _ I h) fun v s1 ⟨x, H1, I1, r1, q1⟩ => ?_)
  obtain ⟨M, d, fm, hx, q⟩ := q1
  have hst : PO X (some (.UnaryOp .USub (.Constant (.int 1) k p1) p2)) (tPart (tUn (rU fun i => .int (-i)) (tC (.int 1)))) := po_some (pe_un un_neg pe_int)
  refine wpAny_Slice (thn (po_none.run pins s1 σ H1 (fun o H2 => o = none ∧ H2 = H1) I1 ⟨rfl, rfl⟩) fun vl s2 ⟨l, H2, I2, pl, el, e2⟩ => ?_)
  subst el e2
  refine thn (po_none.run pins s2 σ H2 (fun o H3 => o = none ∧ H3 = H2) I2 ⟨rfl, rfl⟩) fun vu s3 ⟨u, H3, I3, pu, eu, e3⟩ => ?_
  subst eu e3
  refine thn (hst.run pins s3 σ H3 (fun o H4 => o = some (-1) ∧ H4 = H3) I3 ⟨1, rfl, -1, rfl, rfl, rfl⟩) fun vs s4 ⟨o, H4, I4, ps, eo, e4⟩ => ?_
  subst eo e4
  have I5 : Inv X pins σ H4 { s4 with heap := s4.heap.push { cls := .type "slice", data := .fields #[vl, vu, vs] } } := I4.kept (t' := s4.toks) fun b ob q => Heap.get?_push_of_some _ q
  show wpAny (model X.prog X.w) X.A (PyProof.Rows.subscriptTail e (.Slice none none (some (.UnaryOp .USub (.Constant (.int 1) k p1) p2)) p3) v (.ref s4.heap.objs.size)) (EP X pins σ Q) X.xe { s4 with heap := s4.heap.push { cls := .type "slice", data := .fields #[vl, vu, vs] } }
  cases d with
  | lst ds =>
    obtain ⟨a, xs, rfl, h1, l1, r⟩ := hx.lst
    cases r1
    have q : Out R M H4 Q (.lst ds.reverse) := q
    obtain ⟨its, rv, ht, hz⟩ := I5.list (SqL.of (K := X.K) h1)
    have hlen := rv.length
    refine PyProof.Rows.tail_any (ops := [.ref a, .ref s4.heap.objs.size]) ht.isList.typeIs (PySem.slot_list_getitem.lookup) ?_ (by with_unfolding_all rfl)
    refine wpAny_getItem_list_slice ht.isList (Heap.IsSliceOf.new _ vl vu vs) pl pu ps (by decide) ?_ (by rw [List.size_toArray]; omega)
    rw [PySem.W.krv_pick]
    have hz' : xs.reverse.length ≤ sizeLine := by rw [List.length_reverse]; exact l1
    refine ⟨.ref _, _, I5.laid (t' := s4.toks) (o := .lst xs.reverse) (fun b ob q => Heap.get?_push_of_some _ q) (Nat.le_refl _) ?_, rfl, q.lst fm r.reverse hz' _ (I5.hok.fresh (Nat.le_refl _))⟩
    exact ⟨hz', _, 0, rv.reverse, Heap.get?_push_size _ rfl⟩
  | str y =>
    obtain ⟨rfl, k1⟩ := hx.str
    have q : Out R M H4 Q (.str ⟨y.cps.reverse⟩) := q
    obtain ⟨t, rfl⟩ := r1
    obtain ⟨l', rfl, hl'⟩ := IsPart.raw pl
    obtain ⟨u', rfl, hu'⟩ := IsPart.raw pu
    obtain ⟨w', rfl, hw'⟩ := IsPart.raw ps
    refine PyProof.Rows.tail_any (ops := [.str y t, .ref s4.heap.objs.size]) (typeIs_str _ _ _) PySem.F.slot_str_getitem.lookup ?_ (by with_unfolding_all rfl)
    refine wpAny_getItem_str_slice (l := l') (u := u') (st := w') ⟨_, Heap.get?_push_size _ rfl, rfl, rfl⟩ (by rw [hw']; rfl) ?_
    unfold sliceMade slicePicked
    rw [hl', hu', hw']
    show Made.post (if ((-1 : Int) == 1 && _) = true then _ else Made.str ⟨((Builtin.Str.strSliceIndices none none (-1) y.length).filterMap (y.cps[·]?)).toArray⟩) (EP X pins σ Q) _
    rw [if_neg (by rw [show ((-1 : Int) == 1) = false by decide, Bool.false_and]; exact Bool.false_ne_true), rev_pick]
    exact ⟨k1.rev.1, .str _, H4, I5.tok _, ⟨_, rfl⟩, q.now (.str _ k1.rev)⟩
  | _ => exact q.elim
section
variable {R : RP} {C : XCl} {Γ : Gm} {B m ng : Nat} {EX : WX} {N : List Str} {sc : Scope} {fb : Str → Bool} {X : Cx} {F : FrD} {σ : St} {ρ ρ' : Rho} {H H' : Hp} {n n' c nb : Nat}
variable {a b e1 : Expr} {es : List Expr} {p q r : E} {ps : Es} {pos : Pos}
theorem s_rev {k : Nat} {p1 p2 p3 : Pos} (ha : PE X a (tE R C Γ B EX p)) : PE X (.Subscript a (.Slice none none (some (.UnaryOp .USub (.Constant (.int 1) k p1) p2)) p3) pos) (tE R C Γ B EX (.slR p)) := imE (pe_revD ha) fun σ H Q ⟨F, ρ, n, nb, x, P, h⟩ => by
  simp only [wE] at h
  simp only [cE] at P h
  refine ⟨F, ρ, n, nb, x, P, wE_mono p (xid x) (fun r ρ1 h v H1 n1 s1 r1 => ?_) h⟩
  obtain ⟨d, m1, h⟩ := r1.use s1.rl h
  refine ⟨_, d, s1.rl.fm, m1, ?_⟩
  cases d <;> first | exact s1.out h | exact h
theorem XOk.add {x : Xr} {p0 : Addr} {o : HO} (h : XOk R C F nb x EX) (f0 : F.H0 p0 = none) (m0 : ∀ a, F.M0 a → ∃ o, F.H0 a = some o) (n1 : p0 ≠ R.dd) (n2 : p0 ≠ R.dl) : XOk R C (F.add p0 o) nb x EX :=
  fun c l cls d σ ρ' H' n' hx le rl xr => h c l cls d σ ρ' H' n' hx le (rl.unadd f0 m0 n1 n2) ⟨xr.1, xr.2.1, xr.2.2.imp id fun ⟨dx, fs, e1, nm, e2, e3, e4⟩ => ⟨dx, fs, e1, fun z => nm (MM.add.mpr (.inl z)), e2, e3, e4.keep (fun _ z => MM.add.mpr (.inl z)) .refl⟩⟩
/-! ### a dict of one pair -/
theorem s_dct1 (ha : PE X a (tE R C Γ B EX p)) (hb : PE X b (tE R C Γ B EX q)) : PE X (.Dict [some a] [b] pos) (tE R C Γ B EX (.dct1 p q)) :=
  imE (pe_disp (pps_cons ha hb pps_nil) rfl rfl (List.cons_ne_nil _ _) (by show 1 ≤ 15; decide)) fun σ H Q ⟨F, ρ, n, nb, x, P, h⟩ dp hp => by
  simp only [wE] at h
  simp only [cE] at P h
  have f0 := P.rl.free0 hp
  have ne : dp ≠ R.dd ∧ dp ≠ R.dl := P.rl.ow_ne f0
  have P1 : Pre R C B EX (F.add dp (.dK [])) σ ρ (upd H dp (.dK [])) n (cE Γ p + cE Γ q) nb x := by
    exact ⟨P.rl.add hp, P.le, P.B, P.xo.add f0 P.rl.m0 ne.1 ne.2⟩
  refine ⟨_, ρ, n, nb, x, P1.dn (by omega), wE_mono p (xid x) (fun r1 ρ1 h v H1 n1 s1 k1 => ?_) h⟩
  refine ⟨_, ρ1, n1, nb, x, P1.go s1 (by omega), wE_mono q (xid x) (fun r2 ρ2 h u H2 n2 s2 k2 => ?_) h⟩
  obtain ⟨d, ρ3, h3, s3, m1⟩ := (k1.keep s2).esc s2.rl h
  obtain ⟨e, ρ4, h4, s4, m2⟩ := (k2.keep s3).esc s3.rl h3
  obtain ⟨y, rfl, h5⟩ := h4
  have S := ((s1.trans s2).trans s3).trans s4
  have m1 := m1.keep s4.sub s4.ext
  cases m1 with
  | str _ ky =>
    refine ⟨S.rl.addH f0 ne.1 ne.2, [(Sum.inr y, u)], rfl, by show 1 ≤ 15; decide, ?_⟩
    have rl5 := (S.rl.readd ne.1 ne.2 (o' := .dK [(Sum.inr y, u)])).unadd f0 P.rl.m0 ne.1 ne.2
    have sub : ∀ b, MM F ρ4 σ b → MM (F.add dp (.dK [])) ρ4 σ b := fun b m => MM.add.mpr (.inl m)
    have np : ¬ MM F ρ4 σ dp := fun m => by
      rcases m with m | ⟨i, z, e1, e2⟩
      · obtain ⟨o, e⟩ := P.rl.m0 _ m
        rw [f0] at e; cases e
      · obtain ⟨a', e3, _, z0⟩ := rl5.ow i z e1
        rw [e3] at e2
        cases e2
        obtain ⟨a'', e4, w4, z1⟩ := S.rl.ow i z e1
        rw [e3] at e4; cases e4
        have z1' : upd F.H0 dp (.dK []) dp = none := z1
        rw [upd_same] at z1'; cases z1'
    have kk : ExtM (MM (F.add dp (.dK [])) ρ4 σ) H2 (upd H2 dp (.dK [(Sum.inr y, u)])) := fun b o nm e => by
      rw [upd_ne fun z => nm (MM.add.mpr (.inr z))]; exact e
    refine h5 _ _ n2 ⟨rl5, by have := S.le; omega, fun z mz => ?_, fun z o nm e => ?_⟩ ?_
    · rcases MM.add.mp (S.sub z (sub z mz)) with w | w
      · exact w
      · exact absurd (w ▸ mz) np
    · have e2 := S.ext z o (fun mz => (MM.add.mp mz).elim nm fun w => by rw [w, hp] at e; cases e) (by rw [upd_ne (ne_of_none e hp)]; exact e)
      rw [upd_ne (ne_of_none e hp)]; exact e2
    · refine .dct np upd_same (by show 1 ≤ sizeLine; decide) (.cons (.str y ky) .nil) (.cons (m2.keep sub kk) .nil)
end
end DL

set_option Elab.async false
set_option linter.all false
set_option maxRecDepth 100000
set_option maxHeartbeats 4000000
namespace DL
open PySem L2
/-! ### what must be seen of the text -/
def notSt : Expr → Bool
  | .Starred _ _ => false
  | _ => true
def noStar (es : List Expr) : Bool := es.all notSt
theorem star_cons {a : Expr} {es : List Expr} {env : Env} (h : notSt a = true) : starEach (a :: es) env = (false, eval a env) :: starEach es env := by
  cases a <;> first | rfl | cases h
theorem star_any {pos : Pos} {env : Env} : ∀ {es : List Expr}, noStar es = true → (backTo pos (starEach es env)).any (·.1) = false
  | [], _ => rfl
  | a :: es, h => by
    have q := Bool.and_eq_true_iff.mp (show (notSt a && es.all notSt) = true from h)
    rw [star_cons q.1]
    show (false || (backTo pos (starEach es env)).any (·.1)) = false
    rw [star_any (es := es) q.2]; rfl
theorem star_all {pos : Pos} {env : Env} : ∀ {es : List Expr}, noStar es = true → (backTo pos (starEach es env)).all (fun x => !x.1) = true
  | [], _ => rfl
  | a :: es, h => by
    have q := Bool.and_eq_true_iff.mp (show (notSt a && es.all notSt) = true from h)
    rw [star_cons q.1]
    show (true && (backTo pos (starEach es env)).all (fun x => !x.1)) = true
    rw [star_all (es := es) q.2]; rfl
theorem star_few {pos : Pos} {env : Env} {es : List Expr} (h : noStar es = true) (hl : es.length < 30) : ((backTo pos (starEach es env)).all (fun x => !x.1) && (backToKw pos (keywordEach [] env)).all (fun x => x.1.isSome)
      && decide (es.length + ([] : List Keyword).length + (if ([] : List Keyword).isEmpty then 0 else 1) < 30)) = true := by
  rw [star_all h, decide_eq_true (show es.length + ([] : List Keyword).length + (if ([] : List Keyword).isEmpty then 0 else 1) < 30 from hl)]
  rfl
def notBase : Expr → Bool
  | .Call (.Name _ _) [] [] _ => false
  | _ => true
theorem base_of {o : Expr} {nm : Str} {env : Env} {w : Sem Value} (h : notBase o = true) : attributeBase o nm env w = w := by
  unfold attributeBase
  split
  · cases h
  · rfl
def kwName : Keyword → Option Str
  | ⟨n, _, _⟩ => n
def kwExpr : Keyword → Expr
  | ⟨_, e, _⟩ => e
theorem kw_all {pos : Pos} {env : Env} : ∀ {kws : List Keyword}, (kws.all fun k => (kwName k).isSome) = true → (backToKw pos (keywordEach kws env)).all (·.1.isSome) = true
  | [], _ => rfl
  | ⟨n, e, p⟩ :: kws, h => by
    have q := Bool.and_eq_true_iff.mp (show (n.isSome && (kws.all fun k => (kwName k).isSome)) = true from h)
    show (n.isSome && (backToKw pos (keywordEach kws env)).all (·.1.isSome)) = true
    rw [q.1, kw_all q.2]; rfl
theorem kw_any {pos : Pos} {env : Env} : ∀ {kws : List Keyword}, (kws.all fun k => (kwName k).isSome) = true → (backToKw pos (keywordEach kws env)).any (·.1.isNone) = false
  | [], _ => rfl
  | ⟨n, e, p⟩ :: kws, h => by
    have q := Bool.and_eq_true_iff.mp (show (n.isSome && (kws.all fun k => (kwName k).isSome)) = true from h)
    show (n.isNone || (backToKw pos (keywordEach kws env)).any (·.1.isNone)) = false
    rw [kw_any q.2]
    cases n
    · cases q.1
    · rfl
theorem kw_map {pos : Pos} {env : Env} : ∀ {kws : List Keyword}, (backToKw pos (keywordEach kws env)).filterMap (·.1) = kws.filterMap kwName
  | [] => rfl
  | ⟨n, e, p⟩ :: kws => by
    show List.filterMap (·.1) ((n, _) :: backToKw pos (keywordEach kws env)) = List.filterMap kwName (⟨n, e, p⟩ :: kws)
    rw [List.filterMap_cons, List.filterMap_cons, kw_map (kws := kws)]
    rfl

theorem xok_none {R : RP} {C : XCl} {F : FrD} {nb : Nat} {EX : WX} : XOk R C F nb noX EX := fun _ _ _ _ _ _ _ _ h => h.elim
/-! ### calls of defs -/
section
variable {R : RP} {C : XCl} {Γ : Gm} {B m ng : Nat} {EX : WX} {N : List Str} {sc : Scope} {fb : Str → Bool} {X : Cx} {F : FrD} {σ : St} {ρ ρ' ρ1 : Rho} {H H' H1 : Hp} {n n' n1 c nb : Nat}
variable {a b e1 e : Expr} {es : List Expr} {p q r : E} {ps : Es} {pos : Pos}
theorem flat_any {M M' : Addr → Prop} {v : V} {d : D} (h : Rep R M H v d) (f : d.flat = true) : Rep R M' H' v d := by
  cases h with
  | non => exact .non
  | bl b => exact .bl b
  | int i => exact .int i
  | str x k => exact .str x k
  | _ => cases f
theorem XRep.up {M M' : Addr → Prop} {cls : Value} {d : Option Addr} {i : Nat} {l : List D} (hm : ∀ a, M' a → M a) (h : XRep R C M H cls d i l) : XRep R C M' H cls d i l :=
  ⟨h.1, h.2.1, h.2.2.imp id fun ⟨dx, fs, e1, nm, e2, e3, e4⟩ => ⟨dx, fs, e1, fun z => nm (hm _ z), e2, e3, e4.keep hm .refl⟩⟩
theorem sp_of {x : Xr} {k c1 ar fc : Nat} {rs : List Rv} {vs : List V} {ds : List D} {Q : VK} {Q2 : Rv → Rho → Prop} {phi : List D → (D → Prop) → Xp → Prop} (P : Pre R C B EX F σ ρ H n k nb x) (s : Stp R F σ ρ H n c1 ρ1 H1 n1) (hk : c1 + fc ≤ k)
    (r : RepAll R (MM F (freezeAll ρ1 rs) σ) H1 vs ds) (hl : ds.length = ar) (hm : ∀ (Q Q' : D → Prop), (∀ z, Q z → Q' z) → phi ds Q (xat x ρ1 rs) → phi ds Q' (xat x ρ1 rs))
    (h : phi ds (fun z => Q2 (.pr z) (frz z.flat ρ1 rs)) (xat x ρ1 rs))
    (hQ : ∀ r ρ', Q2 r ρ' → ∀ v H' n', Stp R F σ ρ H n k ρ' H' n' → RvOk R F ρ' σ H' r v → Q v H') : spP R C B ar fc phi vs H1 Q (wat EX σ) := by
  have fz := freeze_stp (R := R) (F := F) (σ := σ) (H := H1) (n := n1) rs s.rl
  refine ⟨MM F (freezeAll ρ1 rs) σ, ds, n1, xat x ρ1 rs, fun a => fz.rl.there, ⟨fz.rl.mdd, fz.rl.mdl⟩, s.rl.dk, ?_, hl, r, ?_, hm _ _ (fun z hz => ?_) h⟩
  · have := P.le; have := P.B; have := s.le; omega
  · intro c l cls d H' n' hx le kk dk xr
    refine P.xo c l cls d σ _ H' n' hx ?_ (fz.rl.go kk dk) xr
    have := P.le; have := s.le; omega
  · intro v H' n' le kk dk rep
    unfold frz at hz
    by_cases hf : z.flat = true
    · rw [if_pos hf] at hz
      exact hQ _ _ hz v H' n' ⟨s.rl.go kk dk, by have := s.le; omega, s.sub, s.ext.trans (s.rl.extM kk) s.sub⟩ (flat_any (show Rep R _ H' v z from rep) hf)
    · rw [if_neg hf] at hz
      have s2 := s.trans fz
      exact hQ _ _ hz v H' n' ⟨s2.rl.go kk dk, by have := s2.le; omega, s2.sub, s2.ext.trans (s2.rl.extM kk) s2.sub⟩ rep
theorem s_call {y : Str} {p0 : Pos} {f : Nat} (k : Ctx R C Γ B m ng EX N sc fb X) (hf : f < m) (hk : Γ.fk f = .fn) (hy : Γ.fname f = y) (hg : Gl X y) (ha : PA X (e :: es) (tAs R C Γ B EX ps)) (hdb : (y == ("__debug__" : Str)) = false) (hs : noStar (e :: es) = true) :
    PE X (.Call (.Name y p0) (e :: es) [] pos) (tE R C Γ B EX (.call f ps)) := by
  have hs' := Bool.and_eq_true_iff.mp (show (notSt e && es.all notSt) = true from hs)
  have kf := k.fns f hf
  unfold FnD at kf
  rw [hk] at kf
  obtain ⟨ad, fd, pms, hm, hkp, hF, hpl, hb, _⟩ := kf
  refine imE (pe_callA hF (fun _ => k.gd) k.room hg (hy ▸ hm) hkp hb k.pas ha hdb (star_cons hs'.1) (star_any hs'.2)) fun σ H Q ⟨F, ρ, n, nb, x, P, h⟩ => ?_
  simp only [wE] at h
  simp only [cE] at P h
  refine ⟨F, ρ, n, nb, x, P.dn (Nat.le_add_right _ _), wAs_mono ps (xid x) (fun rs ρ1 h vs H1 n1 s1 r1 => ?_) h⟩
  obtain ⟨ds, rr, hl, h⟩ := freeze_rep s1.rl rs (fun _ z => z) r1 h
  exact sp_of P s1 (Nat.le_refl _) rr hl (fun Q Q' hq => Γ.pmono f ds Q Q' _ _ hq (fun _ _ h => h)) h fun r ρ' h => h
theorem RdbAll.length {M : Addr → Prop} : ∀ {vs : List V} {ds : List D}, RdbAll R M H vs ds → vs.length = ds.length
  | [], [], _ => rfl
  | _ :: _, _ :: _, h => by simp [RdbAll.length h.2]
/-! ### built-ins -/
theorem blt_boot {id : String} (h : id ∈ bltNms) : bootBuiltins (Str.ofString id) = some (if isTyId id || ["range", "zip", "enumerate", "bool", "dict", "set", "type"].contains id then .type id else .builtin id) ∧ Str.ofString id ≠ "__name__" ∧ ((Str.ofString id) == ("__debug__" : Str)) = false := by
  simp only [bltNms, List.mem_cons, List.not_mem_nil, or_false] at h
  rcases h with rfl | rfl | rfl | rfl | rfl | rfl | rfl | rfl | rfl | rfl | rfl | rfl | rfl | rfl | rfl | rfl | rfl | rfl | rfl | rfl | rfl <;> exact ⟨by rfl, by decide, by decide⟩
theorem s_blt {id : String} {p0 : Pos} (k : Ctx R C Γ B m ng EX N sc fb X) (hid : id ∈ bltNms) (hid2 : ["range", "zip", "enumerate", "bool", "dict", "set", "type"].contains id = false) (hg : Gl X (Str.ofString id)) (ha : PA X (e :: es) (tAs R C Γ B EX ps)) (hs : noStar (e :: es) = true) :
    PE X (.Call (.Name (Str.ofString id) p0) (e :: es) [] pos) (tE R C Γ B EX (.blt id ps)) := by
  have hs' := Bool.and_eq_true_iff.mp (show (notSt e && es.all notSt) = true from hs)
  obtain ⟨b1, b2, b3⟩ := blt_boot hid
  have hc : CallR X (bltV id) (rBlt R id) := call_D k.eK k.sys k.calm (by have := k.units; omega) fun _ => k.gd
  have e1 : (if isTyId id || ["range", "zip", "enumerate", "bool", "dict", "set", "type"].contains id then Value.type id else .builtin id) = bltV id := by
    unfold bltV
    rw [hid2, Bool.or_false]
  rw [e1] at b1
  have pe : PE X (.Call (.Name (Str.ofString id) p0) (e :: es) [] pos) (tCB (rBlt R id) (tAs R C Γ B EX ps)) := by
    unfold bltV at b1 hc
    split at b1
    · rename_i t
      rw [if_pos t] at hc
      exact pe_callTy hc hg (k.bl id hid) b1 ha b2 b3 (star_cons hs'.1) (star_any hs'.2)
    · rename_i t
      rw [if_neg t] at hc
      exact pe_callB hc hg (k.bl id hid) b1 ha b2 b3 (star_cons hs'.1) (star_any hs'.2)
  refine imE pe fun σ H Q ⟨F, ρ, n, nb, x, P, h⟩ => ?_
  simp only [wE] at h
  simp only [cE] at P h
  refine ⟨F, ρ, n, nb, x, P, wAs_mono ps (xid x) (fun rs ρ1 h vs H1 n1 s1 r1 => ?_) h⟩
  obtain ⟨ds, rr, h⟩ := r1.use s1.rl h
  exact ⟨_, ds, s1.rl.fm, rr, dBlt_mono (fun z hz => s1.out hz) h⟩
/-! isinstance -/
def isiTys : List String := ["int", "str", "list", "tuple", "bool", "dict"]
theorem isi_kit {T : String} (hT : T ∈ isiTys) : kitB "NoneType" T = some false ∧ kitB "bool" T = some (T == "bool" || T == "int") ∧ kitB "int" T = some (T == "int") ∧ kitB "str" T = some (T == "str") ∧ kitB "list" T = some (T == "list") ∧ kitB "tuple" T = some (T == "tuple") ∧ kitB "dict" T = some (T == "dict") := by
  simp only [isiTys, List.mem_cons, List.not_mem_nil, or_false] at hT
  rcases hT with rfl | rfl | rfl | rfl | rfl | rfl <;> decide +kernel
theorem isi_D {T : String} (hT : T ∈ isiTys) (hK : R.K = X.K) {M : Addr → Prop} {v : V} {d : D} {b : Bool} {Q : VK} (h : Rdb R M H v d) (e : dIsi d T = some b) (q : Q (.bl b) H) : rIsi X.K [v, .ty T] H Q := by
  obtain ⟨k1, k2, k3, k4, k5, k6, k7⟩ := isi_kit hT
  cases d with
  | non => cases h.non; cases e; exact ⟨_, _, _, _, _, rfl, .ty T, .base .non, kit_ty k1, q⟩
  | bl c => cases h.bl; cases e; exact ⟨_, _, _, _, _, rfl, .ty T, .base (.bl _), kit_ty k2, q⟩
  | int c => cases h.int; cases e; exact ⟨_, _, _, _, _, rfl, .ty T, .base (.int _), kit_ty k3, q⟩
  | str c => obtain ⟨rfl, _⟩ := h.str; cases e; exact ⟨_, _, _, _, _, rfl, .ty T, .base (.str _), kit_ty k4, q⟩
  | lst xs => obtain ⟨a, ys, rfl, h1, _⟩ := h.lst; cases e; exact ⟨_, _, _, _, _, rfl, .ty T, .base (.lst h1), kit_ty k5, q⟩
  | tup xs =>
    obtain ⟨a, ys, rfl, h1, _⟩ := h.tup; cases e
    rcases h1 with h1 | ⟨o, its, n, l1, l2, _⟩
    · exact ⟨_, _, _, _, _, rfl, .ty T, .base (.tup h1.2), kit_ty k6, q⟩
    · exact ⟨_, _, _, _, _, rfl, .ty T, .kTuple (hK ▸ l1) l2, kit_ty k6, q⟩
  | dct ks vs =>
    cases e
    rcases h with h | ⟨a, rfl, h⟩
    · cases h with
      | dct n h => exact ⟨_, _, _, _, _, rfl, .ty T, .base (.dK h), kit_ty k7, q⟩
    · cases h with
      | dct h => exact ⟨_, _, _, _, _, rfl, .ty T, .base (.dK h), kit_ty k7, q⟩
  | obj => cases e
  | atom => cases e
theorem ty_boot {T : String} (h : T ∈ isiTys) : bootBuiltins (Str.ofString T) = some (.type T) ∧ Str.ofString T ≠ "__name__" ∧ ((Str.ofString T) == ("__debug__" : Str)) = false := by
  simp only [isiTys, List.mem_cons, List.not_mem_nil, or_false] at h
  rcases h with rfl | rfl | rfl | rfl | rfl | rfl <;> exact ⟨by rfl, by decide, by decide⟩
theorem s_isi {T : String} {p0 p1 : Pos} (k : Ctx R C Γ B m ng EX N sc fb X) (hT : T ∈ isiTys) (hg : Gl X "isinstance") (hg2 : Gl X (Str.ofString T)) (ha : PE X a (tE R C Γ B EX p)) (hs : notSt a = true) :
    PE X (.Call (.Name "isinstance" p0) [a, .Name (Str.ofString T) p1] [] pos) (tE R C Γ B EX (.isi p T)) := by
  obtain ⟨t1, t2, t3⟩ := ty_boot hT
  have hmT : X.mg (Str.ofString T) = none := k.bl T (by simp only [isiTys, List.mem_cons, List.not_mem_nil, or_false] at hT; rcases hT with rfl | rfl | rfl | rfl | rfl | rfl <;> decide)
  refine imE (pe_callB call_isi hg (k.bl "isinstance" (by decide)) (by rfl) (pa_cons ha (pa_cons (pe_bltn (v := .ty T) hg2 hmT t1 rfl t2 t3) pa_nil (star_cons rfl)) (star_cons hs)) (by decide) (by decide) (star_cons hs) (star_any rfl)) fun σ H Q ⟨F, ρ, n, nb, x, P, h⟩ => ?_
  simp only [wE] at h
  simp only [cE] at P h
  show tE R C Γ B EX p σ H _
  refine s_one P (Nat.le_refl _) h fun r ρ1 v H1 n1 h s1 r1 => ?_
  obtain ⟨d, r1, b, e, h⟩ := r1.use s1.rl h
  exact isi_D hT k.eK r1 e ((s1.out h).now (.bl _))
end
end DL

set_option Elab.async false
set_option linter.all false
set_option maxRecDepth 100000
set_option maxHeartbeats 4000000
namespace DL
open PySem L2
section
variable {R : RP} {C : XCl} {Γ : Gm} {B m ng : Nat} {EX : WX} {N : List Str} {sc : Scope} {fb : Str → Bool} {X : Cx} {F : FrD} {σ : St} {ρ ρ' ρ1 : Rho} {H H' H1 : Hp} {n n' n1 c nb : Nat}
variable {a b e1 e : Expr} {es : List Expr} {p q r : E} {ps qs : Es} {pos : Pos}
/-! ### keywords -/
def tCallKA (n m : Nat) (sp : Sp) (gV : List V → List V → List V) (E : St → XK) (t tk : TA) : TE := fun σ H Q => t σ H fun vs H1 => tk σ H1 fun zs H2 => vs.length = n ∧ zs.length = m ∧ sp (gV vs zs) H2 Q (E σ)
section
variable {rp : Bool} {CX : CXT} {k n : Nat} {f : Addr} {fd : FuncData} {pms ks : List Str} {sp : Sp} {E : XK} {x : Str} {p0 pos : Pos} {e : Expr} {es : List Expr} {kws : List Keyword} {t tk : TA} {g : List Value → List Value → List Value} {gV : List V → List V → List V}
theorem callKA_fin (F : FnA rp X.prog X.w X.K X.mg X.base CX k f fd pms sp) (gd : rp = true → X.A.guards = some []) (hr : Room k X.A) (hb : KBn X.K fd pms n ks g gV) {σ : St} (hx : PasA CX X σ E) {pins : List (Addr × Obj)} {H : Hp} {Q : VK} {s2 : Shared} {us ws : List Value} {vs zs : List V}
    (I : Inv X pins σ H s2) (r : Vals vs us) (rz : Vals zs ws) (l1 : vs.length = n) (l2 : zs.length = ks.length) (h : sp (gV vs zs) H Q E) : wpAny (model X.prog X.w) X.A (PySem.call (.ref f) us (ks.zip ws)) (EP X pins σ Q) X.xe s2 := by
  refine wpAny_call (codeAny_mono (F.go gd hr hx (hb.to s2 us ws I.kIn (r.length.symm.trans l1) (rz.length.symm.trans l2)) I (hb.rel r rz) h) fun z s' hq => ?_)
  match z, hq with
  | .error e, hq => exact hq
  | .ok (.ret u), hq => exact hq
theorem pe_callKA0 {E : St → XK}  (F : FnA rp X.prog X.w X.K X.mg X.base CX k f fd pms sp) (gd : rp = true → X.A.guards = some []) (hr : Room k X.A) (hg : Gl X x) (hm : X.mg x = some (.ref f)) (hk : PySem.W.keepIn X.K (.ref f) = true) (hb : KBn X.K fd pms n ks g gV) (hx : ∀ σ, PasA CX X σ (E σ))
    (hkw : PK X kws tk) (hall : (kws.all fun k => (kwName k).isSome) = true) (hks : kws.filterMap kwName = ks) (hdb : (x == ("__debug__" : Str)) = false) :
    PE X (.Call (.Name x p0) [] kws pos) (tCallKA n ks.length sp gV E tNil tk) := by
  refine ⟨fun pins s σ H Q I h => ?_⟩
  refine wpAny_Call_Name_kw (ld_glob I hg hm ?_ hdb)
  refine PySem.W.callWith_KW0 (h₀ := X.base) I.ok.mod.kin hk (kw_all hall) ?_ (by rw [kw_any hall]; rfl)
  refine thn (hkw.run pos pins s σ H _ I h) fun ws s2 ⟨zs, H2, I2, rz, l1, l2, q2⟩ => ⟨I2.kIn, ?_⟩
  rw [kw_map, hks]
  exact callKA_fin F gd hr hb (hx σ) I2 .nil rz l1 l2 q2
theorem pe_callKA {E : St → XK} (F : FnA rp X.prog X.w X.K X.mg X.base CX k f fd pms sp) (gd : rp = true → X.A.guards = some []) (hr : Room k X.A) (hg : Gl X x) (hm : X.mg x = some (.ref f)) (hk : PySem.W.keepIn X.K (.ref f) = true) (hb : KBn X.K fd pms n ks g gV) (hx : ∀ σ, PasA CX X σ (E σ))
    (ha : PA X (e :: es) t) (hkw : PK X kws tk) (hall : (kws.all fun k => (kwName k).isSome) = true) (hks : kws.filterMap kwName = ks) (hdb : (x == ("__debug__" : Str)) = false) (hs : noStar (e :: es) = true) :
    PE X (.Call (.Name x p0) (e :: es) kws pos) (tCallKA n ks.length sp gV E t tk) := by
  have hs' := Bool.and_eq_true_iff.mp (show (notSt e && es.all notSt) = true from hs)
  refine ⟨fun pins s σ H Q I h => ?_⟩
  refine wpAny_Call_Name_kw (ld_glob I hg hm ?_ hdb)
  refine PySem.W.callWith_KW (h₀ := X.base) I.ok.mod.kin hk (kw_all hall) (thn (ha.run pos pins s σ H _ I h) fun us s1 ⟨vs, H1, I1, r, q⟩ => ?_) (by rw [star_any hs, kw_any hall]; rfl) (star_cons hs'.1)
  refine thn (hkw.run pos pins s1 σ H1 _ I1 q) fun ws s2 ⟨zs, H2, I2, rz, l1, l2, q2⟩ => ⟨I2.kIn, ?_⟩
  rw [kw_map, hks]
  exact callKA_fin F gd hr hb (hx σ) I2 r rz l1 l2 q2
end
theorem imK {kws : List Keyword} {t t' : TA} (h : PK X kws t) (k : ∀ σ H Q, t' σ H Q → t σ H Q) : PK X kws t' := ⟨fun pos pins s σ H Q I q => h.run pos pins s σ H Q I (k σ H Q q)⟩
theorem s_ks0 : PK X [] (tAs R C Γ B EX .nil) := imK pk_nil fun σ H Q ⟨F, ρ, n, nb, x, P, h⟩ => by
  simp only [wAs] at h
  exact h [] H n (P.rl.stp.up (Nat.zero_le _)) True.intro
theorem s_ks1 {nm : Option Str} {kp : Pos} {kws : List Keyword} (ha : PE X a (tE R C Γ B EX p)) (hr : PK X kws (tAs R C Γ B EX ps)) : PK X (⟨nm, a, kp⟩ :: kws) (tAs R C Γ B EX (.cons p ps)) := imK (pk_cons ha hr) fun σ H Q ⟨F, ρ, n, nb, x, P, h⟩ => by
  simp only [wAs] at h
  simp only [cEs] at P h
  refine ⟨F, ρ, n, nb, x, P.dn (by omega), wE_mono p (xid x) (fun r ρ1 h v H1 n1 s1 r1 => ?_) h⟩
  refine ⟨F, ρ1, n1, nb, x, P.go s1 (by omega), wAs_mono ps (xid x) (fun rs ρ2 h vs H2 n2 s2 r2 => ?_) h⟩
  exact h _ H2 n2 ((s1.trans s2).up (by omega)) ⟨r1.keep s2, r2⟩
theorem RvsOk.append : ∀ {rs ss : List Rv} {vs ws : List V}, RvsOk R F ρ σ H rs vs → RvsOk R F ρ σ H ss ws → RvsOk R F ρ σ H (rs ++ ss) (vs ++ ws)
  | [], _, [], _, _, q => q
  | _ :: _, _, _ :: _, _, h, q => ⟨h.1, RvsOk.append h.2 q⟩
theorem getD_rep {M : Addr → Prop} {vs : List V} {ds : List D} (r : RepAll R M H vs ds) {i : Nat} (hi : i < ds.length) : Rep R M H (vs.getD i .non) (ds.getD i .non) := by
  obtain ⟨v, e1, e2⟩ := r.get (List.getElem?_eq_getElem hi)
  rw [List.getD_eq_getElem?_getD, List.getD_eq_getElem?_getD, e1, List.getElem?_eq_getElem hi]
  exact e2
theorem perm_rep {M : Addr → Prop} {vs : List V} {ds : List D} (r : RepAll R M H vs ds) : ∀ {pm : List Nat}, (∀ i ∈ pm, i < ds.length) → RepAll R M H (pm.map fun i => vs.getD i .non) (pm.map fun i => ds.getD i .non)
  | [], _ => .nil
  | i :: pm, h => .cons (getD_rep r (h i List.mem_cons_self)) (perm_rep r fun j hj => h j (List.mem_cons_of_mem _ hj))
theorem callk_core {f j : Nat} {gV : List V → List V → List V} {dvs : List V} {t0 : TA} {Q : VK} (k : Ctx R C Γ B m ng EX N sc fb X) (hj : (Γ.ks j).f = f) (hpl : (Γ.ks j).perm.length = Γ.arity f)
    (hd : ∀ M H, RepAll R M H dvs (Γ.ks j).dfl) (hi : ∀ i ∈ (Γ.ks j).perm, i < (Γ.ks j).np + (Γ.ks j).ks.length + (Γ.ks j).dfl.length)
    (hV : ∀ vs zs, vs.length = (Γ.ks j).np → zs.length = (Γ.ks j).ks.length → gV vs zs = (Γ.ks j).perm.map fun i => (vs ++ zs ++ dvs).getD i .non)
    (ht : ∀ σ H Q, tAs R C Γ B EX ps σ H Q → t0 σ H Q) (h : tE R C Γ B EX (.callk j ps qs) σ H Q) :
    tCallKA (Γ.ks j).np (Γ.ks j).ks.length (spP R C B (Γ.arity f) (Γ.fcost f) (Γ.phi f)) gV (wat EX) t0 (tAs R C Γ B EX qs) σ H Q := by
  subst hj
  obtain ⟨F, ρ, n, nb, x, P, h⟩ := h
  simp only [wE] at h
  simp only [cE] at P h
  refine ht _ _ _ ⟨F, ρ, n, nb, x, P.dn (by omega), wAs_mono ps (xid x) (fun rs1 ρ1 h vs H1 n1 s1 r1 => ?_) h⟩
  refine ⟨F, ρ1, n1, nb, x, P.go s1 (by omega), wAs_mono qs (xid x) (fun rs2 ρ2 h zs H2 n2 s2 r2 => ?_) h⟩
  obtain ⟨l1, l2, h⟩ := h
  have m1 : vs.length = (Γ.ks j).np := by rw [← l1, r1.length]
  have m2 : zs.length = (Γ.ks j).ks.length := by rw [← l2, r2.length]
  refine ⟨m1, m2, ?_⟩
  rw [hV vs zs m1 m2]
  have s12 := s1.trans s2
  obtain ⟨ds, rr, h⟩ := freeze_rep s12.rl (rs1 ++ rs2) (fun _ z => z) ((r1.keep s2).append r2) h
  have ld : ds.length = (Γ.ks j).np + (Γ.ks j).ks.length := by rw [← rr.length, List.length_append, m1, m2]
  refine sp_of P s12 (Nat.le_refl _) (ds := (Γ.ks j).put ds) ?_ (by unfold KS.put; rw [List.length_map, hpl]) (fun Q Q' hq => Γ.pmono _ _ Q Q' _ _ hq (fun _ _ h => h)) h fun r ρ' h => h
  exact perm_rep (rr.append (hd _ _)) fun i hm => by rw [List.length_append, ld]; exact hi i hm
theorem s_callk {y : Str} {p0 : Pos} {j : Nat} {kws : List Keyword} (k : Ctx R C Γ B m ng EX N sc fb X) (hf : (Γ.ks j).f < m) (hk : Γ.fk (Γ.ks j).f = .fn) (hpl : (Γ.ks j).perm.length = Γ.arity (Γ.ks j).f) (hy : Γ.fname (Γ.ks j).f = y) (hg : Gl X y) (hdb : (y == ("__debug__" : Str)) = false)
    (ha : es ≠ [] → PA X es (tAs R C Γ B EX ps)) (ha0 : es = [] → ps = .nil) (hs : noStar es = true) (hkw : PK X kws (tAs R C Γ B EX qs)) (hall : (kws.all fun k => (kwName k).isSome) = true) (hks : kws.filterMap kwName = (Γ.ks j).ks) :
    PE X (.Call (.Name y p0) es kws pos) (tE R C Γ B EX (.callk j ps qs)) := by
  have kf := k.fns _ hf
  unfold FnD at kf
  rw [hk] at kf
  obtain ⟨ad, fd, pms, hm, hkp, hF, hpl', hb, hk2⟩ := kf
  obtain ⟨g, gV, dvs, hb, hd, hi, hV⟩ := hk2 j rfl
  cases es with
  | nil =>
    refine imE (pe_callKA0 hF (fun _ => k.gd) k.room hg (hy ▸ hm) hkp hb k.pas hkw hall hks hdb) fun σ H Q h => callk_core k rfl hpl hd hi hV (fun σ H Q h => ?_) h
    rw [ha0 rfl] at h
    obtain ⟨F, ρ, n, nb, x, P, h⟩ := h
    simp only [wAs] at h
    exact h [] H n (P.rl.stp.up (Nat.zero_le _)) True.intro
  | cons e es =>
    exact imE (pe_callKA hF (fun _ => k.gd) k.room hg (hy ▸ hm) hkp hb k.pas (ha (List.cons_ne_nil _ _)) hkw hall hks hdb hs) fun σ H Q h => callk_core k rfl hpl hd hi hV (fun σ H Q h => h) h
end
end DL

set_option Elab.async false
set_option linter.all false
set_option maxRecDepth 100000
set_option maxHeartbeats 4000000
namespace DL
open PySem L2
section
variable {R : RP} {C : XCl} {Γ : Gm} {B m ng : Nat} {EX : WX} {N : List Str} {sc : Scope} {fb : Str → Bool} {X : Cx} {F : FrD} {σ : St} {ρ ρ' ρ1 : Rho} {H H' H1 : Hp} {n n' n1 c nb : Nat}
variable {a b e1 e : Expr} {es : List Expr} {p q r : E} {ps qs : Es} {pos : Pos} {Q : VK}
/-! ### methods that read -/
def rMth (R : RP) (id : String) : V → List V → Hp → VK → Prop := fun x xs H Q => ∃ M d ds, FreshM M H ∧ Rdb R M H x d ∧ RdbAll R M H xs ds ∧ dMth id d ds (Out R M H Q)
def mthIds : List String := ["str.join", "str.index", "list.index", "str.split"]
def mutIds : List String := ["list.append", "list.extend", "list.pop"]
structure MInf (id : String) : Prop where
  pa : PlainAttrs (mT id)
  slot : Slot (mT id) (mN id) id
  ty : typeOf (.builtin id) = pure (.type "method_descriptor")
theorem mth_inf {id : String} (h : id ∈ mthIds) : MInf id := by
  simp only [mthIds, List.mem_cons, List.not_mem_nil, or_false] at h
  rcases h with rfl | rfl | rfl | rfl
  · exact ⟨PySem.F.plainAttrs_str, PySem.F.slot_str_join, PySem.F.type_str_join⟩
  · exact ⟨PySem.F.plainAttrs_str, PySem.F.slot_str_index, PySem.F.type_str_index⟩
  · exact ⟨PySem.F.plainAttrs_list, PySem.F.slot_list_index, PySem.F.type_list_index⟩
  · exact ⟨PySem.F.plainAttrs_str, PySem.F.slot_str_split, PySem.F.type_str_split⟩
theorem mut_inf {id : String} (h : id ∈ mutIds) : MInf id := by
  simp only [mutIds, List.mem_cons, List.not_mem_nil, or_false] at h
  rcases h with rfl | rfl | rfl
  · exact ⟨PySem.F.plainAttrs_list, PySem.F.slot_list_append, PySem.F.type_list_append⟩
  · exact ⟨PySem.F.plainAttrs_list, PySem.F.slot_list_extend, PySem.F.type_list_extend⟩
  · exact ⟨PySem.F.plainAttrs_list, PySem.F.slot_list_pop, PySem.F.type_list_pop⟩
theorem rdb_flat {M : Addr → Prop} {v : V} {d : D} (h : Rdb R M H v d) (f : d.flat = true) : Rep R M H v d := by
  rcases h with h | ⟨a, _, h⟩
  · exact h
  · cases h <;> cases f
theorem strs_new {M : Addr → Prop} : ∀ {zs : List Str}, (∀ z ∈ zs, SOk z) → RepAll R M H (zs.map V.str) (zs.map D.str)
  | [], _ => .nil
  | z :: zs, h => .cons (.str z (h z (List.mem_cons_self ..))) (strs_new fun y hy => h y (List.mem_cons_of_mem _ hy))
theorem mth_D {id : String} (hK : R.K = X.K) : MtR X id (rMth R id) := by
  intro pins s σ H x xs v us Q I rx rs h
  obtain ⟨M, d, ds, fm, hx, hxs, h⟩ := h
  unfold dMth at h
  split at h
  · rename_i z ys
    obtain ⟨zs, e, hl, h⟩ := h
    obtain ⟨rfl, k1⟩ := hx.str
    obtain ⟨w, rfl, hw⟩ := hxs.one
    obtain ⟨p, ws, rfl, h1, l1, r1⟩ := hw.lst
    obtain ⟨rfl, hok⟩ := strs_rep r1 e
    refine mt_join pins s σ H _ _ v us Q I rx rs ⟨z, p, zs, rfl, rfl, .inl (SqL.of h1), hl, ?_⟩
    rw [show Txt.join z zs = Str.join z zs from PySem.StrLaws.glued_eq_join z zs]
    exact h.now (.str _ (.mk (Nat.le_trans (PySem.StrLaws.join_length_le z zs) hl) (join_lt k1.lt zs fun y hy => (hok y hy).lt)))
  · rename_i z y
    obtain ⟨c, rfl, hc, h⟩ := h
    obtain ⟨rfl, k1⟩ := hx.str
    obtain ⟨w, rfl, hw⟩ := hxs.one
    obtain ⟨rfl, _⟩ := hw.str
    obtain ⟨t, rfl⟩ := rx
    cases rs with
    | cons r1 rs =>
      cases rs
      obtain ⟨u, rfl⟩ := r1
      have f1 := PySem.StrLaws.found_one z c
      rw [decide_eq_true hc] at f1
      cases q : Builtin.Str.occurrences z ⟨#[c]⟩ 0 z.length 1 with
      | nil => rw [q] at f1; cases f1
      | cons i rest =>
        have sp := PySem.StrLaws.occ_spec z ⟨#[c]⟩ 0 z.length 1 i (by rw [q]; exact List.mem_cons_self)
        exact PySem.SC.index q ⟨.int (i : Nat), H, I.tok _, ⟨_, rfl⟩, (h i ((PySem.StrLaws.subAt_one z c i).mp sp)).now (.int _)⟩
  · rename_i z y
    obtain ⟨⟨y0, z0⟩, l0, ok, h⟩ := h
    obtain ⟨rfl, k1⟩ := hx.str
    obtain ⟨w, rfl, hw⟩ := hxs.one
    obtain ⟨rfl, k2⟩ := hw.str
    refine mt_split pins s σ H _ _ v us Q I rx rs ⟨_, _, rfl, rfl, y0, z0, fun p hp => ?_⟩
    refine h.lst fm (strs_new fun z hz => ?_) (by rw [List.length_map]; exact l0) p hp
    exact ⟨(ok z hz).1, (ok z hz).2⟩
  · rename_i ys d
    obtain ⟨j, z, ⟨f1, f2⟩, hz, e, hno, h⟩ := h
    obtain ⟨a, vs, rfl, h1, l1, r1⟩ := hx.lst
    obtain ⟨w, rfl, hw⟩ := hxs.one
    have hw := rdb_flat hw f1
    obtain ⟨zv, ez, rz⟩ := r1.get hz
    have fl := inV_any hw f1 r1 f2
    have fz : z.flat = true := List.all_eq_true.mp f2 z (List.mem_of_getElem? hz)
    refine mt_index pins s σ H _ _ v us Q I rx rs ⟨a, vs, w, j, zv, rfl, rfl, SqL.of h1, flat_rep hw f1, fl.2, ez, (eqV_eqv rz hw fz f1).trans e, fun m z' hm e' => ?_, h.now (.int _)⟩
    obtain ⟨d', e2, r2⟩ := r1.getV e'
    exact (eqV_eqv r2 hw (List.all_eq_true.mp f2 d' (List.mem_of_getElem? e2)) f1).trans (hno m d' hm e2)
  · exact h.elim
theorem isT_tyV {M : Addr → Prop} {v : V} {d : D} {T : String} (h : Rdb R M H v d) (e : dIsi d T = some true) (hT : T = "str" ∨ T = "list" ∨ T = "dict") : tyV X.K T v H := by
  have s1 : ∀ {A B : String}, some (A == B) = some true → A = B := fun e => eq_of_beq (Option.some.inj e)
  cases d with
  | non => cases e
  | bl b => rcases hT with rfl | rfl | rfl <;> (simp [dIsi] at e)
  | int i => rcases hT with rfl | rfl | rfl <;> (simp [dIsi] at e)
  | str x => obtain ⟨rfl, _⟩ := h.str; exact s1 e
  | lst xs => obtain ⟨a, ys, rfl, h1, _⟩ := h.lst; exact .inl ⟨s1 e, ys, SqL.of h1⟩
  | tup xs => rcases hT with rfl | rfl | rfl <;> (simp [dIsi] at e)
  | dct ks vs =>
    rcases h with h | ⟨a, rfl, h⟩
    · cases h with
      | dct n h => exact .inr (.inr (.inl ⟨s1 e, .inl ⟨_, h⟩⟩))
    · cases h with
      | dct h => exact .inr (.inr (.inl ⟨s1 e, .inl ⟨_, h⟩⟩))
  | obj => cases e
  | atom => cases e
theorem mth_ty {id : String} (h : id ∈ mthIds) : mT id = "str" ∨ mT id = "list" ∨ mT id = "dict" := by
  simp only [mthIds, List.mem_cons, List.not_mem_nil, or_false] at h
  rcases h with rfl | rfl | rfl | rfl
  · exact .inl rfl
  · exact .inl rfl
  · exact .inr (.inl rfl)
  · exact .inl rfl
theorem mut_ty {id : String} (h : id ∈ mutIds) : mT id = "str" ∨ mT id = "list" ∨ mT id = "dict" := by
  simp only [mutIds, List.mem_cons, List.not_mem_nil, or_false] at h
  rcases h with rfl | rfl | rfl <;> exact .inr (.inl rfl)
theorem s_mth {id : String} {ap : Pos} (k : Ctx R C Γ B m ng EX N sc fb X) (hid : id ∈ mthIds) (ho : PE X a (tE R C Γ B EX p)) (ha : PA X (e :: es) (tAs R C Γ B EX ps)) (hb : notBase a = true) (hs : noStar (e :: es) = true) (hl : (e :: es).length < 30) (hp : (ap.endLine == pos.line) = true) :
    PE X (.Call (.Attribute a (mN id) ap) (e :: es) [] pos) (tE R C Γ B EX (.mth id p ps)) := by
  have hs' := Bool.and_eq_true_iff.mp (show (notSt e && es.all notSt) = true from hs)
  have I := mth_inf hid
  refine imE (pe_bm I.pa I.slot I.ty (mth_D k.eK) ho ha (base_of hb) (star_few hs hl) hp (star_cons hs'.1) (star_any hs'.2)) fun σ H Q ⟨F, ρ, n, nb, x, P, h⟩ => ?_
  simp only [wE] at h
  simp only [cE] at P h
  refine ⟨F, ρ, n, nb, x, P.dn (by omega), wE_mono p (xid x) (fun r ρ1 h v H1 n1 s1 r1 => ?_) h⟩
  obtain ⟨d0, m0, e0, h⟩ := r1.use s1.rl h
  refine ⟨isT_tyV m0 e0 (mth_ty hid), F, ρ1, n1, nb, x, P.go s1 (by omega), wAs_mono ps (xid x) (fun rs ρ2 h vs H2 n2 s2 r2 => ?_) h⟩
  obtain ⟨d, m1, h⟩ := (r1.keep s2).use s2.rl h
  obtain ⟨ds, m2, h⟩ := r2.use s2.rl h
  exact ⟨_, d, ds, s2.rl.fm, m1, m2, dMth_mono (fun z hz => (s1.trans s2).out hz) h⟩
/-! ### methods that change a thing of one's own -/
def rMut (R : RP) (id : String) : V → List V → Hp → VK → Prop := fun x xs H Q => ∃ M a d ds, x = .ref a ∧ M a ∧ OwnAt R M H a d ∧ RepAll R M H xs ds ∧ dMut id d ds fun d' z => ∀ v o, OwnAt R M (upd H a o) a d' → Rep R M (upd H a o) v z → Q v (upd H a o)
theorem ext_own {M : Addr → Prop} {a : Addr} {o : HO} (ma : M a) : ExtM M H (upd H a o) := fun b u nb e => by rw [upd_ne (a := a) (b := b) fun z => nb (by rw [z]; exact ma)]; exact e
theorem mut_D {id : String} : MtR X id (rMut R id) := by
  intro pins s σ H x xs v us Q I rx rs h
  obtain ⟨M, a, d, ds, rfl, ma, w, hxs, h⟩ := h
  unfold dMut at h
  split at h
  · rename_i xs d
    obtain ⟨hz, h⟩ := h
    obtain ⟨w1, rfl, hw⟩ := hxs.one
    cases w with
    | lst h1 l1 r1 =>
      refine mt_append pins s σ H _ _ v us Q I rx rs ⟨a, _, w1, rfl, rfl, h1, by rw [r1.length]; exact hz, ?_⟩
      exact h _ _ (.lst upd_same (by rw [List.length_append, r1.length]; exact hz) ((r1.append (.cons hw .nil)).keep (fun _ z => z) (ext_own ma))) .non
  · rename_i xs ys
    obtain ⟨hz, h⟩ := h
    obtain ⟨w1, rfl, hw⟩ := hxs.one
    cases w with
    | lst h1 l1 r1 =>
      cases hw with
      | lst h2 l2 r2 =>
        refine mt_extend pins s σ H _ _ v us Q I rx rs ⟨a, _, _, _, rfl, rfl, h1, h2.2, by rw [r1.length, r2.length]; exact hz, ?_⟩
        exact h _ _ (.lst upd_same (by rw [List.length_append, r1.length, r2.length]; exact hz) ((r1.append r2).keep (fun _ z => z) (ext_own ma))) .non
  · rename_i xs
    obtain ⟨y, e, h⟩ := h
    cases hxs
    cases w with
    | lst h1 l1 r1 =>
      rename_i vs
      obtain ⟨w1, e1, hw⟩ := r1.get e
      refine mt_pop pins s σ H _ _ v us Q I rx rs ⟨a, _, w1, rfl, rfl, h1, by rw [r1.length]; exact e1, ?_⟩
      have rd : RepAll R M H vs.dropLast xs.dropLast := by rw [List.dropLast_eq_take, List.dropLast_eq_take, ← r1.length]; exact r1.take _
      exact h _ _ (.lst upd_same (by rw [List.length_dropLast]; omega) (rd.keep (fun _ z => z) (ext_own ma))) (hw.keep (fun _ z => z) (ext_own ma))
  · rename_i xs i
    obtain ⟨j, y, ⟨b1, b2⟩, ej, e, h⟩ := h
    obtain ⟨wi, rfl, hi⟩ := hxs.one
    cases hi
    cases w with
    | lst h1 l1 r1 =>
      rename_i vs
      obtain ⟨w1, e1, hw⟩ := r1.get e
      refine mt_popAt pins s σ H _ _ v us Q I rx rs ⟨a, _, i, j, w1, rfl, rfl, h1, b1, b2, by rw [r1.length]; exact ej, e1, ?_⟩
      exact h _ _ (.lst upd_same (Nat.le_trans (List.length_eraseIdx_le ..) l1) ((r1.eraseIdx j).keep (fun _ z => z) (ext_own ma))) (hw.keep (fun _ z => z) (ext_own ma))
  · exact h.elim
theorem mut_core {id : String} {i : Nat} {t0 : TA} (hid : id ∈ mutIds) (ht : ∀ σ H Q, tEs R C Γ B EX ps σ H Q → t0 σ H Q) (h : tE R C Γ B EX (.mut id i ps) σ H Q) : tBM X.K (mT id) (rMut R id) (tVar i) t0 σ H Q := by
  obtain ⟨F, ρ, n, nb, x, P, h⟩ := h
  simp only [wE] at h
  simp only [cE] at P h
  obtain ⟨⟨d0, e0, ty⟩, h⟩ := h
  obtain ⟨a, es, w, _⟩ := P.rl.ow i d0 e0
  refine ⟨.ref a, es, isT_tyV (.inr ⟨a, rfl, w⟩) ty (mut_ty hid), ht _ _ _ ⟨F, ρ, n, nb, x, P, wEs_mono ps (xid x) (fun ds ρ1 h vs H1 n1 s1 r1 => ?_) h⟩⟩
  obtain ⟨d, e1, h⟩ := h
  obtain ⟨a', es', w', _⟩ := s1.rl.ow i d e1
  rw [es] at es'; cases es'
  refine ⟨_, a, d, ds, rfl, .inr ⟨i, d, e1, es⟩, w', r1, dMut_mono (fun d' z h v o w2 r2 => ?_) h⟩
  obtain ⟨rl2, eM, k2⟩ := s1.rl.mut e1 es w2
  exact h v _ n1 ⟨rl2, s1.le, fun b mb => s1.sub b ((eM b).mp mb), s1.ext.trans k2 s1.sub⟩ (r2.keep (fun b mb => (eM b).mp mb) .refl)
theorem s_mut {id : String} {i : Nat} {y : Str} {p0 ap : Pos} (hid : id ∈ mutIds) (ho : PE X (.Name y p0) (tVar i)) (ha : PA X (e :: es) (tEs R C Γ B EX ps)) (hs : noStar (e :: es) = true) (hl : (e :: es).length < 30) (hp : (ap.endLine == pos.line) = true) :
    PE X (.Call (.Attribute (.Name y p0) (mN id) ap) (e :: es) [] pos) (tE R C Γ B EX (.mut id i ps)) := by
  have hs' := Bool.and_eq_true_iff.mp (show (notSt e && es.all notSt) = true from hs)
  have I := mut_inf hid
  exact imE (pe_bm I.pa I.slot I.ty mut_D ho ha (base_of rfl) (star_few hs hl) hp (star_cons hs'.1) (star_any hs'.2)) fun σ H Q h => mut_core hid (fun _ _ _ h => h) h
theorem s_mut0 {id : String} {i : Nat} {y : Str} {p0 ap : Pos} (hid : id ∈ mutIds) (ho : PE X (.Name y p0) (tVar i)) (hp : (ap.endLine == pos.line) = true) :
    PE X (.Call (.Attribute (.Name y p0) (mN id) ap) [] [] pos) (tE R C Γ B EX (.mut id i .nil)) := by
  have I := mut_inf hid
  refine imE (pe_bm0 I.pa I.slot I.ty (mut_D (R := R)) ho (base_of rfl) hp) fun σ H Q h => ?_
  have z : tBM X.K (mT id) (rMut R id) (tVar i) tNil σ H Q := mut_core hid (fun σ H Q ⟨F, ρ, n, nb, x, P, h⟩ => by
    simp only [wEs] at h
    exact h [] H n (P.rl.stp.up (Nat.zero_le _)) .nil) h
  exact z
end
end DL

set_option Elab.async false
set_option linter.all false
set_option maxRecDepth 100000
set_option maxHeartbeats 4000000
/-! Instances of the program's own classes: attributes, methods, [], in, making. -/
namespace DL
open PySem L2
/-- an index that is no slice -/
def SubOk (b : Expr) : Prop := ∀ x i, subscripted b true (.ref x) i = runValue (.builtin "lifetime.subscript" ⟨[.ref x, i], []⟩)
section
variable {R : RP} {C : XCl} {Γ : Gm} {B m ng : Nat} {EX : WX} {N : List Str} {sc : Scope} {fb : Str → Bool} {X : Cx} {F : FrD} {σ : St} {ρ ρ' ρ1 : Rho} {H H' H1 : Hp} {n n' n1 c nb : Nat}
variable {a b e1 e o : Expr} {es : List Expr} {p q r : E} {ps qs : Es} {pos : Pos} {Q : VK}
theorem Rep.invO {M : Addr → Prop} {v : V} {c : Nat} {fs : List D} (h : Rep R M H v (.obj c fs)) : ∃ a dx fvs, v = .ref a ∧ ¬ M a ∧ H a = some (.ins (R.cls c) dx fvs) ∧ fvs.map (·.1) = R.flds c ∧ RepAll R M H (fvs.map (·.2)) fs := by
  cases h with
  | obj n h e r => exact ⟨_, _, _, rfl, n, h, e, r⟩
theorem rdb_obj {M : Addr → Prop} {v : V} {c : Nat} {fs : List D} (h : Rdb R M H v (.obj c fs)) : Rep R M H v (.obj c fs) := by
  rcases h with h | ⟨a, _, h⟩
  · exact h
  · cases h
theorem look_at : ∀ {fs : List (Str × V)} {j : Nat} {nm : Str} {v : V}, (fs.map (·.1)).Nodup → (fs.map (·.1))[j]? = some nm → (fs.map (·.2))[j]? = some v → fs.lookup nm = some v
  | [], j, nm, v, _, h, _ => by simp at h
  | (k, u) :: fs, 0, nm, v, _, h, h2 => by
    simp only [List.map_cons, List.getElem?_cons_zero, Option.some.injEq] at h h2
    rw [← h, ← h2]; simp
  | (k, u) :: fs, j + 1, nm, v, nd, h, h2 => by
    simp only [List.map_cons, List.getElem?_cons_succ, List.nodup_cons] at h h2 nd
    have ne : nm ≠ k := fun e => nd.1 (e ▸ List.mem_of_getElem? h)
    rw [List.lookup_cons, show (nm == k) = false from by simpa using ne]
    exact look_at nd.2 h h2
theorem look_none {fs : List (Str × V)} {nm : Str} (h : nm ∉ fs.map (·.1)) : fs.lookup nm = none := by
  induction fs with
  | nil => rfl
  | cons a fs ih =>
    obtain ⟨k, u⟩ := a
    simp only [List.map_cons, List.mem_cons, not_or] at h
    rw [List.lookup_cons, show (nm == k) = false from by simpa using h.1]
    exact ih h.2
/-- an attribute -/
theorem s_fld {ci j : Nat} {nm : Str} (k : Ctx R C Γ B m ng EX N sc fb X) (hc : ci < Γ.ncl) (hn : (Γ.cfl ci)[j]? = some nm) (ha : PE X a (tE R C Γ B EX p)) (hb : notBase a = true) : PE X (.Attribute a nm pos) (tE R C Γ B EX (.fld p ci j)) :=
  imE (pe_fld ha (base_of hb)) fun σ H Q ⟨F, ρ, n, nb, x, P, h⟩ => by
  simp only [wE] at h
  refine s_one P (by simp only [cE]; omega) h fun r ρ1 v H1 n1 h s1 r1 => ?_
  obtain ⟨d, r1, fs, z, rfl, hz, h⟩ := r1.use s1.rl h
  obtain ⟨ad, dx, fvs, rfl, na, hh, hf, ra⟩ := (rdb_obj r1).invO
  have co := k.cl ci hc
  obtain ⟨v, ev, rv⟩ := ra.get hz
  refine ⟨ad, _, dx, fvs, v, rfl, hh, co.cls, co.na nm (List.mem_of_getElem? hn), look_at ?_ ?_ ev, (s1.out h).now rv⟩
  · rw [hf, co.fl]; exact co.nd
  · rw [hf, co.fl]; exact hn
/-! a method -/
theorem call_meth {prog : Program} {w : World} {A : Around} {E : Value → Shared → Prop} {s : Shared} {env : Env} {o : Expr} {name : Str} {apos pos : Pos} {args : List Expr} {kws : List Keyword} {Q : Value → Shared → Prop}
    (hbase : attributeBase o name env (eval o env) = eval o env) (hform : methodCallForm (args.length + kws.length) (backTo pos (starEach args env)) (backToKw pos (keywordEach kws env)) = true) (hline : (apos.endLine == pos.line) = true)
    (h : wpAny (model prog w) A (eval o env) (fun ov s₁ => ∀ pl, wpAny (model prog w) A (getMethod ov name pl) (fun fx s₂ => wpAny (model prog w) A (callWith pos fx.1 fx.2 (backTo pos (starEach args env)) (backToKw pos (keywordEach kws env))) Q E s₂) E s₁) E s) :
    wpAny (model prog w) A (eval (.Call (.Attribute o name apos) args kws pos) env) Q E s := by
  rw [arm_eval_Call, hbase]
  refine wpAny_bind (wpAny_mono h (fun ov s₁ h₁ => ?_) fun _ _ e => e)
  refine wpAny_bind (wpAny_standAt ?_)
  have hpos : methodCallPos true o env apos pos = pure pos := by unfold methodCallPos; simp [hline]
  unfold methodCall
  rw [hform]
  unfold calleeOf
  rw [if_pos rfl]
  refine wpAny_bind (wpAny_holding (wpAny_mono (h₁ _) (fun fx s₂ z => wpAny_bind (wpAny_of_eq hpos z)) fun _ _ e => e))
section
variable {rp : Bool} {CX : CXT} {kk : Nat} {f Ca : Addr} {fd : FuncData} {pms : List Str} {sp : Sp} {E : XK} {nm : Str} {ap : Pos} {t tk : TA} {ta tb : TE} {kws : List Keyword}
theorem pe_methA {E : St → XK} (he : PE X o ta) (cl : Cls X.K Ca) (hm : Meth X.K Ca nm f) (F : FnA rp X.prog X.w X.K X.mg X.base CX kk f fd pms sp) (gd : rp = true → X.A.guards = some []) (hr : Room kk X.A) (hb : Binds X.K fd pms []) (hx : ∀ σ, PasA CX X σ (E σ)) (ha : es ≠ [] → PA X es t) (h0 : es = [] → ∀ σ H Q, t σ H Q → Q [] H)
    (hbase : notBase o = true) (hs : noStar es = true) (hl : es.length < 30) (hline : (ap.endLine == pos.line) = true) :
    PE X (.Call (.Attribute o nm ap) es [] pos) (fun σ H Q => ta σ H fun x H1 => (∃ a dx fs, x = .ref a ∧ H1 a = some (.ins Ca dx fs) ∧ fs.lookup nm = none) ∧ t σ H1 fun vs H2 => sp (x :: vs) H2 Q (E σ)) := by
  refine ⟨fun pins s σ H Q I h => ?_⟩
  refine call_meth (base_of hbase) ?_ hline (thn (he.run pins s σ H _ I h) fun u s1 ⟨x, H1, I1, rx, ⟨a, dx, fs, ex, ea, l⟩, q⟩ pl => ?_)
  · unfold methodCallForm
    exact star_few hs hl
  subst ex
  obtain rfl : u = Value.ref a := rx
  refine getmeth_ok I1 ea cl hm l ?_
  cases es with
  | nil => exact PySem.W.callWith_K0 (first := [.ref a]) I1.kIn hm.kp (F.call (us := [.ref a]) (vs := [.ref a]) gd hr hb (hx σ) I1 (.cons rfl .nil) (h0 rfl _ _ _ q))
  | cons e es =>
    have hs' := Bool.and_eq_true_iff.mp (show (notSt e && es.all notSt) = true from hs)
    refine PySem.W.callWith_K (first := [.ref a]) (h₀ := X.base) I.ok.mod.kin hm.kp (thn ((ha (List.cons_ne_nil _ _)).run pos pins s1 σ H1 _ I1 q) fun us s2 ⟨vs, H2, I2, r, q2⟩ => ⟨I2.kIn, ?_⟩) (star_cons hs'.1) (star_any hs'.2)
    exact F.call (us := .ref a :: us) (vs := .ref a :: vs) gd hr hb (hx σ) I2 (.cons rfl r) q2
/-- o.m(k = ..) -/
theorem pe_methKA {E : St → XK} {ks : List Str} {g : List Value → List Value → List Value} {gV : List V → List V → List V} (he : PE X o ta) (cl : Cls X.K Ca) (hm : Meth X.K Ca nm f) (F : FnA rp X.prog X.w X.K X.mg X.base CX kk f fd pms sp) (gd : rp = true → X.A.guards = some []) (hr : Room kk X.A) (hb : KBn X.K fd pms 1 ks g gV) (hx : ∀ σ, PasA CX X σ (E σ))
    (hkw : PK X kws tk) (hall : (kws.all fun k => (kwName k).isSome) = true) (hks : kws.filterMap kwName = ks) (hl : kws.length < 29)
    (hbase : notBase o = true) (hline : (ap.endLine == pos.line) = true) :
    PE X (.Call (.Attribute o nm ap) [] kws pos) (fun σ H Q => ta σ H fun x H1 => (∃ a dx fs, x = .ref a ∧ H1 a = some (.ins Ca dx fs) ∧ fs.lookup nm = none) ∧ tk σ H1 fun zs H2 => zs.length = ks.length ∧ sp (gV [x] zs) H2 Q (E σ)) := by
  refine ⟨fun pins s σ H Q I h => ?_⟩
  refine call_meth (base_of hbase) ?_ hline (thn (he.run pins s σ H _ I h) fun u s1 ⟨x, H1, I1, rx, ⟨a, dx, fs, ex, ea, l⟩, q⟩ pl => ?_)
  · unfold methodCallForm
    rw [kw_all hall]
    show (true && true && decide _) = true
    refine (Bool.and_eq_true _ _).mpr ⟨rfl, decide_eq_true ?_⟩
    simp only [List.length_nil]
    split <;> omega
  subst ex
  obtain rfl : u = Value.ref a := rx
  refine getmeth_ok I1 ea cl hm l ?_
  refine PySem.W.callWith_KW0 (first := [.ref a]) (h₀ := X.base) I.ok.mod.kin hm.kp (kw_all hall) ?_ (by rw [kw_any hall]; rfl)
  refine thn (hkw.run pos pins s1 σ H1 _ I1 q) fun ws s2 ⟨zs, H2, I2, rz, l2, q2⟩ => ⟨I2.kIn, ?_⟩
  rw [kw_map, hks]
  exact callKA_fin (us := [.ref a]) (vs := [.ref a]) F gd hr hb (hx σ) I2 (.cons rfl .nil) rz rfl l2 q2
end
/-- behind a written object: it is there -/
theorem ins_of {ci : Nat} {fs : List D} {nm : Str} {v : V} {M : Addr → Prop} (k : Ctx R C Γ B m ng EX N sc fb X) (hc : ci < Γ.ncl) (hn : nm ∉ Γ.cfl ci) (r : Rep R M H v (.obj ci fs)) : ∃ a dx fs', v = .ref a ∧ H a = some (.ins (R.cls ci) dx fs') ∧ fs'.lookup nm = none := by
  obtain ⟨ad, dx, fvs, rfl, na, hh, hf, ra⟩ := r.invO
  refine ⟨ad, dx, fvs, rfl, hh, look_none ?_⟩
  rw [hf, (k.cl ci hc).fl]; exact hn
/-- what is used is there, by data -/
theorem useAll_hd {ρ : Rho} {r : Rv} {rs : List Rv} {k : List D → Prop} (u : useAll ρ (r :: rs) k) : useR ρ r fun d => useAll ρ rs fun ds => k (d :: ds) := u
theorem s_mthO {ci f : Nat} {nm : Str} {ap : Pos} (k : Ctx R C Γ B m ng EX N sc fb X) (hf : f < m) (hk : Γ.fk f = .mth ci) (hc : ci < Γ.ncl) (hy : Γ.fname f = nm) (hn : nm ∉ Γ.cfl ci) (ho : PE X o (tE R C Γ B EX p)) (ha : es ≠ [] → PA X es (tAs R C Γ B EX ps)) (h0 : es = [] → ps = .nil)
    (hbase : notBase o = true) (hs : noStar es = true) (hl : es.length < 30) (hline : (ap.endLine == pos.line) = true) :
    PE X (.Call (.Attribute o nm ap) es [] pos) (tE R C Γ B EX (.appm ci f p ps)) := by
  have kf := k.fns f hf
  unfold FnD at kf
  rw [hk] at kf
  obtain ⟨ad, fd, pms, m0, lm, hm, hfi, hF, hpl, hb, _⟩ := kf
  subst hy
  refine imE (pe_methA ho (k.cl ci hc).cls hm hF (fun _ => k.gd) (k.room.mono (by omega)) hb k.pas ha (fun e σ H Q h => ?_) hbase hs hl hline) fun σ H Q ⟨F, ρ, n, nb, x, P, h⟩ => ?_
  · rw [h0 e] at h
    obtain ⟨F, ρ, n, nb, x, P, h⟩ := h
    simp only [wAs] at h
    exact h [] H n (P.rl.stp.up (Nat.zero_le _)) True.intro
  · simp only [wE, wAs] at h
    simp only [cE, cEs] at P h
    refine ⟨F, ρ, n, nb, x, P.dn (by omega), wE_mono p (xid x) (fun r ρ1 h v H1 n1 s1 r1 => ?_) h⟩
    obtain ⟨d0, r0, ⟨fs0, rfl⟩, h⟩ := r1.use s1.rl h
    refine ⟨ins_of k hc hn (rdb_obj r0), F, ρ1, n1, nb, x, P.go s1 (by omega), wAs_mono ps (xid x) (fun rs ρ2 h vs H2 n2 s2 r2 => ?_) h⟩
    have s12 := s1.trans s2
    obtain ⟨ds, rr, hl, h⟩ := freeze_rep s12.rl (r :: rs) (fun _ z => z) (show RvsOk R F ρ2 σ H2 (r :: rs) (v :: vs) from ⟨r1.keep s2, r2⟩) h
    exact sp_of P s12 (Nat.le_refl _) rr hl (fun Q Q' hq => Γ.pmono f ds Q Q' _ _ hq (fun _ _ h => h)) h fun r ρ' h => h
theorem s_mthK {ci j : Nat} {nm : Str} {ap : Pos} {kws : List Keyword} (k : Ctx R C Γ B m ng EX N sc fb X) (hf : (Γ.ks j).f < m) (hk : Γ.fk (Γ.ks j).f = .mth ci) (hpl : (Γ.ks j).perm.length = Γ.arity (Γ.ks j).f) (hc : ci < Γ.ncl) (hy : Γ.fname (Γ.ks j).f = nm) (hn : nm ∉ Γ.cfl ci) (hnp : (Γ.ks j).np = 1) (ho : PE X o (tE R C Γ B EX p))
    (hkw : PK X kws (tAs R C Γ B EX ps)) (hall : (kws.all fun k => (kwName k).isSome) = true) (hks : kws.filterMap kwName = (Γ.ks j).ks) (hl : kws.length < 29) (hbase : notBase o = true) (hline : (ap.endLine == pos.line) = true) :
    PE X (.Call (.Attribute o nm ap) [] kws pos) (tE R C Γ B EX (.appk ci j p ps)) := by
  have kf := k.fns _ hf
  unfold FnD at kf
  rw [hk] at kf
  obtain ⟨ad, fd, pms, m0, lm, hm, hfi, hF, hpl', hb, hk2⟩ := kf
  obtain ⟨g, gV, dvs, hb, hd, hi, hV⟩ := hk2 j rfl
  subst hy
  rw [hnp] at hb
  refine imE (pe_methKA ho (k.cl ci hc).cls hm hF (fun _ => k.gd) (k.room.mono (by omega)) hb k.pas hkw hall hks hl hbase hline) fun σ H Q ⟨F, ρ, n, nb, x, P, h⟩ => ?_
  simp only [wE] at h
  simp only [cE] at P h
  refine ⟨F, ρ, n, nb, x, P.dn (by omega), wE_mono p (xid x) (fun r ρ1 h v H1 n1 s1 r1 => ?_) h⟩
  obtain ⟨d0, r0, ⟨fs0, rfl⟩, h⟩ := r1.use s1.rl h
  refine ⟨ins_of k hc hn (rdb_obj r0), F, ρ1, n1, nb, x, P.go s1 (by omega), wAs_mono ps (xid x) (fun rs ρ2 h vs H2 n2 s2 r2 => ?_) h⟩
  obtain ⟨_, l2, h⟩ := h
  have m2 : vs.length = (Γ.ks j).ks.length := by rw [← l2, r2.length]
  refine ⟨m2, ?_⟩
  have s12 := s1.trans s2
  obtain ⟨ds, rr, h⟩ := freeze_rep s12.rl (r :: rs) (fun _ z => z) (show RvsOk R F ρ2 σ H2 (r :: rs) (v :: vs) from ⟨r1.keep s2, r2⟩) h
  have ld : ds.length = (Γ.ks j).np + (Γ.ks j).ks.length := by rw [← rr.length, List.length_cons, m2, hnp]; omega
  rw [hV [v] vs (by rw [hnp]; rfl) m2]
  refine sp_of P s12 (Nat.le_refl _) (ds := (Γ.ks j).put ds) ?_ (by unfold KS.put; rw [List.length_map, hpl]) (fun Q Q' hq => Γ.pmono _ _ Q Q' _ _ hq (fun _ _ h => h)) h fun r ρ' h => h
  exact perm_rep (vs := v :: vs ++ dvs) (rr.append (hd _ _)) fun i hm => by rw [List.length_append, ld]; exact hi i hm
/-! o[i] -/
theorem FnA.call1 {rp : Bool} {CX : CXT} {kk : Nat} {f : Addr} {fd : FuncData} {pms : List Str} {sp : Sp} {E : XK} (F : FnA rp X.prog X.w X.K X.mg X.base CX kk f fd pms sp) (gd : rp = true → X.A.guards = some []) (hr : Room (kk + 1) X.A) (hb : Binds X.K fd pms []) {σ : St} (hx : PasA CX X σ E) {pins : List (Addr × Obj)} {H : Hp} {s : Shared} {Q : VK} {us : List Value} {vs : List V}
    (I : Inv X pins σ H s) (r : Vals vs us) (h : sp vs H Q E) : wpAny (model X.prog X.w) X.A.in1 (PySem.call (.ref f) us) (EP X pins σ Q) X.xe s := by
  have bt := hb s us I.kIn (by rw [List.append_nil, ← r.length]; exact F.len _ _ _ _ h)
  rw [List.append_nil] at bt
  refine wpAny_call (codeAny_mono (F.run X.A.in1 X.stack s H ⟨us, []⟩ us vs Q E gd hr.in1 I.env0.in1 bt r h) fun z s' hq => ?_)
  match z, hq with
  | .error e, hq => exact hx pins H s e s' I hq
  | .ok (.ret u), hq => exact I.after hq
theorem pe_subA {E : St → XK} {rp : Bool} {CX : CXT} {kk : Nat} {f Ca : Addr} {fd : FuncData} {pms : List Str} {sp : Sp} {ta tb : TE} (he : PE X a ta) (hbb : PE X b tb) (hm : Meth X.K Ca "__getitem__" f) (hfi : PySem.W.fnIn X.K f = true) (F : FnA rp X.prog X.w X.K X.mg X.base CX kk f fd pms sp) (gd : rp = true → X.A.guards = some []) (hr : Room (kk + 1) X.A) (hb : Binds X.K fd pms []) (hx : ∀ σ, PasA CX X σ (E σ)) (hs : SubOk b) :
    PE X (.Subscript a b pos) (fun σ H Q => ta σ H fun x H1 => tb σ H1 fun y H2 => (∃ a dx fs, x = .ref a ∧ H2 a = some (.ins Ca dx fs)) ∧ sp [x, y] H2 Q (E σ)) := by
  refine ⟨fun pins s σ H Q I h => ?_⟩
  refine PyProof.Rows.Subscript_ (binT he hbb I h fun v u s2 x y H2 I2 rx ry q => ?_)
  obtain ⟨⟨ad, dx, fs, rfl, ea⟩, q⟩ := q
  obtain rfl : v = Value.ref ad := rx
  obtain ⟨mm, fr⟩ := I2.fr
  obtain ⟨mA, O, r, _, _, _⟩ := ins_get I2.hok ea
  obtain ⟨od, J, hl⟩ := O.look
  exact PySem.W.sub_K fr I2.ok.mod.kin J hm.at_ hfi hm.fn (F.call1 gd hr hb (hx σ) I2 (.cons (show RelV (.ref ad) (.ref ad) from rfl) (.cons ry .nil)) q) (hs _ _)
theorem s_subO {ci f : Nat} (k : Ctx R C Γ B m ng EX N sc fb X) (hf : f < m) (hk : Γ.fk f = .mth ci) (hy : Γ.fname f = "__getitem__") (ha : PE X a (tE R C Γ B EX p)) (hbb : PE X b (tE R C Γ B EX q)) (hs : SubOk b) :
    PE X (.Subscript a b pos) (tE R C Γ B EX (.apps ci f p q)) := by
  have kf := k.fns f hf
  unfold FnD at kf
  rw [hk] at kf
  obtain ⟨ad, fd, pms, m0, lm, hm, hfi, hF, hpl, hb, _⟩ := kf
  rw [hy] at hm
  refine imE (pe_subA ha hbb hm hfi hF (fun _ => k.gd) (k.room.mono lm) hb k.pas hs) fun σ H Q ⟨F, ρ, n, nb, x, P, h⟩ => ?_
  simp only [wE] at h
  simp only [cE] at P h
  refine ⟨F, ρ, n, nb, x, P.dn (by omega), wE_mono p (xid x) (fun r ρ1 h v H1 n1 s1 r1 => ?_) h⟩
  refine ⟨F, ρ1, n1, nb, x, P.go s1 (by omega), wE_mono q (xid x) (fun rq ρ2 h u H2 n2 s2 r2 => ?_) h⟩
  have s12 := s1.trans s2
  obtain ⟨ds, rr, ⟨fs, y, rfl⟩, hl, h⟩ := freeze_rep s12.rl [r, rq] (fun _ z => z) (show RvsOk R F ρ2 σ H2 [r, rq] [v, u] from ⟨r1.keep s2, r2, True.intro⟩) h
  refine ⟨?_, sp_of P s12 (by omega) rr hl (fun Q Q' hq => Γ.pmono f _ Q Q' _ _ hq (fun _ _ h => h)) h fun r ρ' h => h⟩
  cases rr with
  | cons r0 _ =>
    obtain ⟨a', dx, fvs, rfl, _, hh, _, _⟩ := r0.invO
    exact ⟨a', dx, fvs, rfl, hh⟩
/-! x in o -/
theorem pe_contA {rp : Bool} {CX : CXT} {kk : Nat} {f Ca : Addr} {fd : FuncData} {pms : List Str} {sp : Sp} {E : XK} (hm : Meth X.K Ca "__contains__" f) (F : FnA rp X.prog X.w X.K X.mg X.base CX kk f fd pms sp) (gd : rp = true → X.A.guards = some []) (hr : Room kk X.A) (hb : Binds X.K fd pms []) (hx : ∀ σ, PasA CX X σ E) :
    OpR X (compareOp .In) (fun x y H Q => (∃ a dx fs, y = .ref a ∧ H a = some (.ins Ca dx fs)) ∧ sp [y, x] H (fun z H' => ∃ b, z = .bl b ∧ Q (.bl b) H') E) := by
  intro pins s σ H x y v u Q I rx ry h
  obtain ⟨⟨ad, dx, fs, rfl, ea⟩, q⟩ := h
  obtain rfl : u = Value.ref ad := ry
  obtain ⟨mm, fr⟩ := I.fr
  obtain ⟨mA, O, r, _, _, _⟩ := ins_get I.hok ea
  obtain ⟨od, J, hl⟩ := O.look
  refine PySem.W.in_K fr I.ok.mod.kin J hm.at_ hm.fn (wpAny_mono (F.call gd hr hb (hx σ) I (.cons (show RelV (.ref ad) (.ref ad) from rfl) (.cons rx .nil)) q) (fun r s' z => ?_) fun _ _ z => z)
  obtain ⟨z, H', I', rz, b, rfl, hq⟩ := z
  obtain rfl : r = Value.bool b := rz
  exact wpAny_of_eq (a := b) rfl ⟨.bl b, H', I', rfl, hq⟩
theorem s_contO {ci f : Nat} (k : Ctx R C Γ B m ng EX N sc fb X) (hf : f < m) (hk : Γ.fk f = .mth ci) (hy : Γ.fname f = "__contains__") (ha : PE X a (tE R C Γ B EX p)) (hbb : PE X b (tE R C Γ B EX q)) (hmk : behindInMarks .In b = false) :
    PE X (.Compare a [.In] [b] pos) (tE R C Γ B EX (.appc ci f p q)) := by
  have kf := k.fns f hf
  unfold FnD at kf
  rw [hk] at kf
  obtain ⟨ad, fd, pms, m0, lm, hm, hfi, hF, hpl, hb, _⟩ := kf
  rw [hy] at hm
  refine imE (pe_cmpR (pe_contA hm hF (fun _ => k.gd) (k.room.mono (by omega)) hb pas0) ha hbb hmk) fun σ H Q ⟨F, ρ, n, nb, x, P, h⟩ => ?_
  simp only [wE] at h
  simp only [cE] at P h
  refine ⟨F, ρ, n, nb, x, P.dn (by omega), wE_mono p (xid x) (fun r ρ1 h v H1 n1 s1 r1 => ?_) h⟩
  refine ⟨F, ρ1, n1, nb, x, P.go s1 (by omega), wE_mono q (xid x) (fun rq ρ2 h u H2 n2 s2 r2 => ?_) h⟩
  have s12 := s1.trans s2
  obtain ⟨ds, rr, fs, y, rfl, hl, h⟩ := freeze_rep s12.rl [r, rq] (fun _ z => z) (show RvsOk R F ρ2 σ H2 [r, rq] [v, u] from ⟨r1.keep s2, r2, True.intro⟩) h
  cases rr with
  | cons ry t =>
    cases t with
    | cons ro t =>
      cases t
      obtain ⟨a', dx, fvs, rfl, na, hh, hf', ra⟩ := ro.invO
      refine ⟨⟨a', dx, fvs, rfl, hh⟩, ?_⟩
      refine sp_of (EX := fun _ _ _ _ => False) (x := noX) (Q2 := fun z ρ' => ∃ b, z = .pr (.bl b) ∧ ∀ v H' n', Stp R F σ ρ H n _ ρ' H' n' → RvOk R F ρ' σ H' (.pr (.bl b)) v → Q v H') ⟨P.rl, P.le, P.B, xok_none⟩ s12 (by omega) (.cons (.obj na hh hf' ra) (.cons ry .nil)) hl (fun Q Q' hq => Γ.pmono f _ Q Q' _ _ hq (fun _ _ h => h)) (Γ.pmono f _ _ _ _ _ (fun z ⟨b, e, hz⟩ => ⟨b, by rw [e], hz⟩) (fun _ _ h => h) h) fun r ρ' ⟨b, e, hq⟩ v H' n' st rv => ?_
      subst e
      cases (show Rep R _ H' v (.bl b) from rv)
      exact ⟨b, rfl, hq _ H' n' st rv⟩
/-! C(..) -/
theorem make_gd {A : Around} {Ca : Addr} {us : List Value} {kw : List (Str × Value)} (h : A.guards = some []) : (A.under (.builtin "type.__call__" ⟨.ref Ca :: us, kw⟩)).guards = some [] := by
  have e : (Code.builtin "type.__call__" ⟨.ref Ca :: us, kw⟩).guards = [] := by
    first | rfl | simp [Code.guards, Code.isGuard, guardIds]
  show pushGuards (Code.builtin "type.__call__" ⟨.ref Ca :: us, kw⟩).guards A.guards = some []
  rw [e]; exact h
theorem run_makeA {CX : CXT} {kk : Nat} {f Ca : Addr} {fd : FuncData} {pms : List Str} {sp : Sp} {E : XK} {pins : List (Addr × Obj)} {σ : St} {H : Hp} {s : Shared} {Q : VK} {us : List Value} {vs : List V} (M : Mk X.K Ca f) (F : FnA true X.prog X.w X.K X.mg X.base CX kk f fd pms sp) (gd : X.A.guards = some []) (hr : Room (kk + 1) X.A) (hb : Binds X.K fd pms [])
    (hx : PasA CX X σ E) (I : Inv X pins σ H s) (r : Vals vs us)
    (h : ∀ x dx, H x = none → H dx = none → dx ≠ x → sp (.ref x :: vs) (upd (upd H dx (.own x)) x (.ins Ca dx [])) (fun v H2 => v = .non ∧ Q (.ref x) H2) E) :
    wpAny (model X.prog X.w) X.A (PySem.call (.ref Ca) us) (EP X pins σ Q) X.xe s := by
  have hq := h (s.heap.objs.size + 1) s.heap.objs.size (I.hok.fresh (Nat.le_succ _)) (I.hok.fresh (Nat.le_refl _)) (Nat.ne_of_lt (Nat.lt_succ_self _))
  have I2 := Inv.made (C := Ca) I
  have r2 : Vals (V.ref (s.heap.objs.size + 1) :: vs) (Value.ref (s.heap.objs.size + 1) :: us) := .cons rfl r
  have hl : ((Value.ref (s.heap.objs.size + 1) :: us) ++ []).length = pms.length := by
    have e := r2.length
    rw [F.len _ _ _ _ hq] at e
    rw [List.append_nil]
    exact e.symm
  have bt := hb _ (Value.ref (s.heap.objs.size + 1) :: us) I2.kIn hl
  rw [List.append_nil] at bt
  refine wpAny_call (make_map (f := f) I.kIn M.makes M.init (beq_iff_eq.mp M.fn) (codeAny_mono (F.run _ X.stack _ _ ⟨Value.ref (s.heap.objs.size + 1) :: us, []⟩ (Value.ref (s.heap.objs.size + 1) :: us) _ _ E (fun _ => make_gd gd) (hr.make Ca us [])
    (I2.env0.make Ca us []) bt r2 hq) fun r s' hq' => ?_))
  cases r with
  | error e => exact hx pins _ _ e s' I2 hq'
  | ok fl =>
    cases fl with
    | ret u =>
      obtain ⟨v, H', I3, rv, ev, q3⟩ := I2.after hq'
      subst ev
      exact ⟨rv, ⟨V.ref (s.heap.objs.size + 1), H', I3, rfl, q3⟩⟩
    | next => exact False.elim hq'
    | brk => exact False.elim hq'
    | cont => exact False.elim hq'
theorem pe_makeA {E : St → XK} {CX : CXT} {kk : Nat} {f Ca : Addr} {fd : FuncData} {pms : List Str} {sp : Sp} {y : Str} {p0 : Pos} {t : TA} (M : Mk X.K Ca f) (F : FnA true X.prog X.w X.K X.mg X.base CX kk f fd pms sp) (gd : X.A.guards = some []) (hr : Room (kk + 1) X.A) (hg : Gl X y) (hm : X.mg y = some (.ref Ca)) (hb : Binds X.K fd pms []) (hx : ∀ σ, PasA CX X σ (E σ))
    (ha : PA X (e :: es) t) (hdb : (y == ("__debug__" : Str)) = false) (hs : noStar (e :: es) = true) :
    PE X (.Call (.Name y p0) (e :: es) [] pos) (fun σ H Q => t σ H fun vs H1 => ∀ x dx, H1 x = none → H1 dx = none → dx ≠ x → sp (.ref x :: vs) (upd (upd H1 dx (.own x)) x (.ins Ca dx [])) (fun v H2 => v = .non ∧ Q (.ref x) H2) (E σ)) := by
  have hs' := Bool.and_eq_true_iff.mp (show (notSt e && es.all notSt) = true from hs)
  refine ⟨fun pins s σ H Q I h => ?_⟩
  refine wpAny_Call_Name_kw (ld_glob I hg hm ?_ hdb)
  refine PySem.W.callWith_K (h₀ := X.base) I.ok.mod.kin M.kp (thn (ha.run pos pins s σ H _ I h) fun us s1 ⟨vs, H1, I1, r, q⟩ => ⟨I1.kIn, ?_⟩) (star_cons hs'.1) (star_any hs'.2)
  exact run_makeA M F gd hr hb (hx σ) I1 r q
theorem new_core {ci f : Nat} {Q : VK} (h : ∃ F ρ n nb x, Pre R C B EX F σ ρ H n (cEs Γ ps + Γ.fcost f) nb x ∧ wAs Γ x ps ρ fun rs ρ1 => useAll ρ1 rs fun ds => ds.length = Γ.arity f ∧ Γ.phi f ds (fun z => ∀ v H' n', Stp R F σ ρ H n (cEs Γ ps + Γ.fcost f) (frz z.flat ρ1 rs) H' n' → RvOk R F (frz z.flat ρ1 rs) σ H' (.pr z) v → Q v H') (xat x ρ1 rs)) :
    tAs R C Γ B EX ps σ H fun vs H1 => ∀ x dx, H1 x = none → H1 dx = none → dx ≠ x → spI R C B (Γ.arity f) (Γ.fcost f) ci (Γ.phi f) (.ref x :: vs) (upd (upd H1 dx (.own x)) x (.ins (R.cls ci) dx [])) (fun v H2 => v = .non ∧ Q (.ref x) H2) (wat EX σ) := by
  obtain ⟨F, ρ, n, nb, x, P, h⟩ := h
  refine ⟨F, ρ, n, nb, x, P.dn (Nat.le_add_right _ _), wAs_mono ps (xid x) (fun rs ρ1 h vs H1 n1 s1 r1 => ?_) h⟩
  obtain ⟨ds, rr, hl, h⟩ := freeze_rep s1.rl rs (fun _ z => z) r1 h
  intro xa dx hxa hdx ne
  have fz := freeze_stp (R := R) (F := F) (σ := σ) (H := H1) (n := n1) rs s1.rl
  have sm : Same H1 (upd (upd H1 dx (.own xa)) xa (.ins (R.cls ci) dx [])) := fun a o e => by
    rw [upd_ne (ne_of_none e hxa), upd_ne (ne_of_none e hdx)]; exact e
  refine ⟨MM F (freezeAll ρ1 rs) σ, ds, n1, xat x ρ1 rs, xa, dx, vs, rfl, upd_same, fz.rl.fresh hxa, fun a z => ?_, ⟨fz.rl.mdd, fz.rl.mdl⟩, s1.rl.dk.same sm, ?_, hl, (rr.bar hxa).keep (fun _ z => z) (.of_same sm), ?_, Γ.pmono f ds _ _ _ _ (fun z hz => ?_) (fun _ _ h => h) h⟩
  · obtain ⟨o, q⟩ := fz.rl.there z
    exact ⟨o, sm a o q⟩
  · have := P.le; have := P.B; have := s1.le; omega
  · intro c l cls d H' n' hx le kk dk xr
    refine P.xo c l cls d σ _ H' n' hx ?_ (fz.rl.go ((ExtK.of_same sm).trans kk) dk) xr
    have := P.le; have := s1.le; omega
  · intro H' n' le kk dk rep
    refine ⟨rfl, ?_⟩
    have kk' : ExtK R H1 H' := fun a o n1 n2 e => kk a o n1 n2 (ne_of_none e hxa) (sm a o e)
    have hfl : z.flat = false := by
      clear hz h
      generalize hv : V.ref xa = v0 at rep
      cases z <;> first | rfl | (cases rep; cases hv)
    have hz : _ := hz
    unfold frz at hz
    rw [hfl, if_neg Bool.false_ne_true] at hz
    have s2 := s1.trans fz
    exact hz _ H' n' ⟨s2.rl.go kk' dk, by have := s2.le; omega, s2.sub, s2.ext.trans (s2.rl.extM kk') s2.sub⟩ rep
theorem s_newO {ci f : Nat} {y : Str} {p0 : Pos} (k : Ctx R C Γ B m ng EX N sc fb X) (hf : f < m) (hk : Γ.fk f = .new ci) (hy : Γ.fname f = y) (hg : Gl X y) (ha : PA X (e :: es) (tAs R C Γ B EX ps)) (hdb : (y == ("__debug__" : Str)) = false) (hs : noStar (e :: es) = true) :
    PE X (.Call (.Name y p0) (e :: es) [] pos) (tE R C Γ B EX (.appn ci f ps)) := by
  have kf := k.fns f hf
  unfold FnD at kf
  rw [hk] at kf
  obtain ⟨ad, fd, pms, m0, lm, hm, hM, hF, hpl, hb, _⟩ := kf
  refine imE (pe_makeA hM hF k.gd (k.room.mono lm) hg (hy ▸ hm) hb k.pas ha hdb hs) fun σ H Q ⟨F, ρ, n, nb, x, P, h⟩ => ?_
  simp only [wE] at h
  simp only [cE] at P h
  exact new_core ⟨F, ρ, n, nb, x, P, h⟩
/-! tuple(range(n)) -/
theorem rg_rep {M : Addr → Prop} : ∀ (b : Int), RepAll R M H (rgV 0 b) ((List.range b.toNat).map fun i : Nat => D.int (i : Int)) := fun b => by
  have key : ∀ l : List Nat, RepAll R M H (l.map fun i => V.int (0 + ((i : Nat) : Int))) (l.map fun i : Nat => D.int (i : Int)) := fun l => by
    induction l with
    | nil => exact .nil
    | cons i l ih =>
      refine .cons ?_ ih
      show Rep R M H (V.int (0 + (i : Int))) (D.int (i : Int))
      rw [Int.zero_add]
      exact .int _
  have := key (List.range b.toNat)
  unfold rgV
  rw [Int.sub_zero]
  exact this
theorem s_tupR {p1 p2 pos2 : Pos} (k : Ctx R C Γ B m ng EX N sc fb X) (h1 : Gl X "tuple") (h2 : Gl X "range") (ha : PE X a (tE R C Γ B EX p)) (hs : notSt a = true) : PE X (.Call (.Name "tuple" p1) [.Call (.Name "range" p2) [a] [] pos2] [] pos) (tE R C Γ B EX (.tupR p)) :=
  imE (pe_tupRg k.calm h1 (k.bl "tuple" (by decide)) (prg_1 h2 (k.bl "range" (by decide)) ha (star_cons hs)) (by rfl)) fun σ H Q ⟨F, ρ, n, nb, x, P, h⟩ => by
  simp only [wE] at h
  refine s_one P (by simp only [cE]; omega) h fun r ρ1 v H1 n1 h s1 r1 => ?_
  obtain ⟨d, r1, j, rfl, ⟨j0, j1⟩, h⟩ := r1.use s1.rl h
  cases r1.int
  refine ⟨j, rfl, .of_le (Int.le_refl 0) j1 (by decide) j0, fun q hq => ?_⟩
  exact (s1.out h).tup s1.rl.fm (rg_rep j) (by rw [rgV_length]; show _ ≤ 2 ^ 24; omega) q hq
end
end DL

set_option Elab.async false
set_option linter.all false
set_option maxRecDepth 100000
set_option maxHeartbeats 4000000
/-! Operators of the program's own classes on two instances of one class: ==, binary operators; len of an instance. -/
namespace DL
open PySem L2
section
variable {R : RP} {C : XCl} {Γ : Gm} {B m ng : Nat} {EX : WX} {N : List Str} {sc : Scope} {fb : Str → Bool} {X : Cx} {F : FrD} {σ : St} {ρ ρ' ρ1 : Rho} {H H' H1 : Hp} {n n' n1 c nb : Nat}
variable {a b e1 e o : Expr} {es : List Expr} {p q r : E} {ps qs : Es} {pos : Pos} {Q : VK}
theorem back_of {Q : Value → Shared → Prop} {v : V} {u : Value} {s' : Shared} (r : RelV v u) (h : Q u s') : PySem.W.CmpBack Q u s' := by
  cases v <;> first | (obtain ⟨t, rfl⟩ := r; exact h) | (cases r; exact h)
/-- both stand in the heap, of the class at Ca -/
def twoIns (Ca : Addr) (H : Hp) (x y : V) : Prop := (∃ a dx fs, x = .ref a ∧ H a = some (.ins Ca dx fs)) ∧ ∃ a dx fs, y = .ref a ∧ H a = some (.ins Ca dx fs)
theorem op_eqA {rp : Bool} {CX : CXT} {kk : Nat} {f Ca : Addr} {fd : FuncData} {pms : List Str} {sp : Sp} {E : XK} (hm : Meth X.K Ca "__eq__" f) (F : FnA rp X.prog X.w X.K X.mg X.base CX kk f fd pms sp) (gd : rp = true → X.A.guards = some []) (hr : Room kk X.A) (hb : Binds X.K fd pms []) (hx : ∀ σ, PasA CX X σ E) :
    OpR X (compareOp .Eq) (fun x y H Q => twoIns Ca H x y ∧ sp [x, y] H Q E) := by
  intro pins s σ H x y v u Q I rx ry ⟨⟨⟨a1, d1, f1, ex, h1⟩, ⟨a2, d2, f2, ey, h2⟩⟩, q⟩
  subst ex ey
  have q1 : v = Value.ref a1 := rx
  have q2 : u = Value.ref a2 := ry
  subst q1 q2
  obtain ⟨mm, fr⟩ := I.fr
  obtain ⟨_, O1, _⟩ := ins_get I.hok h1
  obtain ⟨_, O2, _⟩ := ins_get I.hok h2
  obtain ⟨_, J1, _⟩ := O1.look
  obtain ⟨_, J2, _⟩ := O2.look
  have room : X.A.units < cLine := by have := hr.un; omega
  have nf : PySem.W.notFirst X.K Ca (.ref Ca) = true := by unfold PySem.W.notFirst; simp
  have run := F.call gd hr hb (hx σ) I (vs := [.ref a1, .ref a2]) (us := [.ref a1, .ref a2]) (.cons (show RelV (.ref a1) (.ref a1) from rfl) (.cons (show RelV (.ref a2) (.ref a2) from rfl) .nil)) q
  have fin := PySem.W.cmp_K (op := .Eq) room fr I.ok.mod.kin J1 J2.type nf hm.at_ hm.fn (wpAny_mono run (fun z s' hz => by
    obtain ⟨w, H', I', rw', hq⟩ := hz
    exact back_of (Q := EP X pins σ Q) rw' ⟨w, H', I', rw', hq⟩) fun _ _ z => z)
  exact fin
/-- an operation, with these slots -/
def OpS (X : Cx) (σ : St) (f : Value → Value → Sem Value) (r : R2) : Prop :=
  ∀ (pins : List (Addr × Obj)) (s : Shared) (H : Hp) (x y : V) (v u : Value) (Q : VK), Inv X pins σ H s → RelV x v → RelV y u → r x y H Q → wpAny (model X.prog X.w) X.A (f v u) (EP X pins σ Q) X.xe s
theorem pe_opS {op : Operator} {r : St → R2} {ta tb : TE} (ho : ∀ σ, OpS X σ (binaryOp op) (r σ)) (ha : PE X a ta) (hb : PE X b tb) : PE X (.BinOp a op b pos) (fun σ H Q => tOp (r σ) ta tb σ H Q) :=
  ⟨fun pins s σ H Q I h => wpAny_BinOp (binT ha hb I h fun v u s2 x y H2 I2 rx ry q => ho σ pins s2 H2 x y v u Q I2 rx ry q)⟩
theorem op_binA {op : Operator} {rp : Bool} {CX : CXT} {kk : Nat} {f Ca : Addr} {fd : FuncData} {pms : List Str} {sp : Sp} {E : XK} {σ : St} (hsf : PySem.W.selfFirst X.K Ca = true) (hm : Meth X.K Ca (PySem.dunder op.info.2) f) (F : FnA rp X.prog X.w X.K X.mg X.base CX kk f fd pms sp) (gd : rp = true → X.A.guards = some []) (hr : Room kk X.A) (hb : Binds X.K fd pms []) (hx : PasA CX X σ E) :
    OpS X σ (binaryOp op) (fun x y H Q => twoIns Ca H x y ∧ sp [x, y] H Q E) := by
  intro pins s H x y v u Q I rx ry ⟨⟨⟨a1, d1, f1, ex, h1⟩, ⟨a2, d2, f2, ey, h2⟩⟩, q⟩
  subst ex ey
  have q1 : v = Value.ref a1 := rx
  have q2 : u = Value.ref a2 := ry
  subst q1 q2
  obtain ⟨mm, fr⟩ := I.fr
  obtain ⟨_, O1, _⟩ := ins_get I.hok h1
  obtain ⟨_, O2, _⟩ := ins_get I.hok h2
  obtain ⟨_, J1, _⟩ := O1.look
  obtain ⟨_, J2, _⟩ := O2.look
  have run := F.call gd hr hb hx I (vs := [.ref a1, .ref a2]) (us := [.ref a1, .ref a2]) (.cons (show RelV (.ref a1) (.ref a1) from rfl) (.cons (show RelV (.ref a2) (.ref a2) from rfl) .nil)) q
  exact PySem.W.binop_K fr I.ok.mod.kin J1 J2.type hsf hm.at_ hm.fn (wpAny_mono run (fun z s' hz => by
    obtain ⟨w, H', I', rw', hq⟩ := hz
    exact back_of (Q := EP X pins σ Q) rw' ⟨w, H', I', rw', hq⟩) fun _ _ z => z)
/-! a property -/
theorem pe_propA {rp : Bool} {CX : CXT} {kk : Nat} {f pa Ca : Addr} {nm : Str} {fd : FuncData} {pms : List Str} {sp : Sp} {ta : TE} (he : PE X a ta) (cl : Cls X.K Ca) (hp : PropOf X.K Ca nm pa f) (F : FnA rp X.prog X.w X.K X.mg X.base CX kk f fd pms sp) (gd : rp = true → X.A.guards = some []) (hr : Room (kk + 1) X.A) (hb : Binds X.K fd pms []) (hn : notBase a = true)
    (hx : ∀ (H : Hp) (s : Shared) (e : Value) (s' : Shared), ¬ CX X.stack H s (fun _ _ _ => False) e s') :
    PE X (.Attribute a nm pos) (fun σ H Q => ta σ H fun x H1 => (∃ a dx fs, x = .ref a ∧ H1 a = some (.ins Ca dx fs)) ∧ sp [x] H1 Q fun _ _ _ => False) := by
  refine ⟨fun pins s σ H Q I h => attr_of (base_of hn) (thn (he.run pins s σ H _ I h) fun u s1 ⟨x, H1, I1, rx, ⟨ad, dx, fs, ex, ea⟩, q⟩ => ?_)⟩
  subst ex
  have eu : u = Value.ref ad := rx
  subst eu
  obtain ⟨_, O, _⟩ := ins_get I1.hok ea
  obtain ⟨od, J, _⟩ := O.look
  obtain ⟨rest, hrec⟩ := hp.rec_
  have I2 := I1.tok (s1.toks + 1)
  have hc : (PySem.W.clsIn X.K Ca).isSome = true := by
    obtain ⟨cd, hc, _⟩ := PySem.W.any_some cl.hd
    rw [hc]; rfl
  have bt := hb { s1 with toks := s1.toks + 1 } [.ref ad] I2.kIn (by rw [List.append_nil, ← F.len _ _ _ _ q]; rfl)
  rw [List.append_nil] at bt
  have rv : Vals [V.ref ad] [Value.ref ad] := .cons (show RelV (.ref ad) (.ref ad) from rfl) .nil
  have run := F.run X.A.in1 X.stack { s1 with toks := s1.toks + 1 } H1 ⟨[.ref ad], []⟩ [.ref ad] [.ref ad] Q (fun _ _ _ => False) gd hr.in1 I2.env0.in1 bt rv q
  have g1 := PySem.W.plainGet_of (cl.get nm)
  refine PySem.W.get_bind I1.kIn J g1.1 (PySem.W.findObj_data hc hp.at_ hp.get hp.tak) g1.2 (wpAny_call (PySem.W.prop_get (s := { s1 with toks := s1.toks + 1 }) I1.kIn hrec (codeAny_mono run fun r s' hq => ?_)))
  match r, hq with
  | .error er, hq => exact (hx H1 _ er s' hq).elim
  | .ok (.ret w), hq =>
    obtain ⟨v, H', I3, rv, q3⟩ := I2.after hq
    show wpAny _ _ (handedOut w) _ _ _
    rw [PySem.W.handedOut_of (handed_of rv)]
    exact wpAny_pure ⟨v, H', I3, rv, q3⟩
/-! a classmethod read off its class -/
theorem pe_cmethA {rp : Bool} {CX : CXT} {kk : Nat} {g pa Ca : Addr} {mc : Value} {nm y : Str} {fd : FuncData} {pms : List Str} {sp : Sp} {E : St → XK} {t : TA} {ap p0 : Pos} (hg : Gl X y) (hm : X.mg y = some (.ref Ca)) (hdb : (y == ("__debug__" : Str)) = false) (r : ClX.CRead X.K Ca mc) (c : ClX.CMet X.K Ca mc nm pa g)
    (F : FnA rp X.prog X.w X.K X.mg X.base CX kk g fd pms sp) (gd : rp = true → X.A.guards = some []) (hr : Room kk X.A) (hb : Binds X.K fd pms []) (hx : ∀ σ, PasA CX X σ (E σ)) (ha : PA X (e :: es) t) (hs : noStar (e :: es) = true) (hl : (e :: es).length < 30) (hline : (ap.endLine == pos.line) = true) :
    PE X (.Call (.Attribute (.Name y p0) nm ap) (e :: es) [] pos) (fun σ H Q => t σ H fun vs H1 => sp (.ref Ca :: vs) H1 Q (E σ)) := by
  have hs' := Bool.and_eq_true_iff.mp (show (notSt e && es.all notSt) = true from hs)
  refine ⟨fun pins s σ H Q I h => ?_⟩
  refine call_meth (base_of rfl) (by unfold methodCallForm; exact star_few hs hl) hline (ld_glob I hg hm (fun pl => ?_) hdb)
  refine ClX.getmethcm_ok I r c fun s2 I2 => ?_
  refine ClX.callwith_cm I2 (ClX.base_none I (Nat.le_refl _)) c.fi (thn (ha.run pos _ s2 σ H _ I2 h) fun us s3 ⟨vs, H2, I3, rv, q2⟩ => ⟨⟨ClX.pin_at I3, I3.kIn⟩, ?_⟩) (star_cons hs'.1) (star_any hs'.2)
  have bt := hb s3 (.ref Ca :: us) I3.kIn (by rw [List.append_nil, ← F.len _ _ _ _ q2, List.length_cons, List.length_cons, rv.length])
  rw [List.append_nil] at bt
  have rr : Vals (V.ref Ca :: vs) (Value.ref Ca :: us) := .cons (show RelV (.ref Ca) (.ref Ca) from rfl) rv
  have z : wpAny (model X.prog X.w) X.A (PySem.call (.ref s.heap.objs.size) us) (EP X ((s.heap.objs.size, PySem.W.methodObj (.ref g) (.ref Ca)) :: pins) σ Q) X.xe s3 := by
    refine wpAny_call (PySem.W.method_call (ClX.pin_at I3) (codeAny_mono (F.go gd hr (hx σ) (args := ⟨.ref Ca :: us, []⟩) bt I3 rr q2) fun z s' hq => ?_))
    match z, hq with
    | .error e, hq => exact hq
    | .ok (.ret u), hq => exact hq
  exact thn z fun _ _ y => ClX.unpinE y
/-- with keywords -/
theorem pe_cmethKA {rp : Bool} {CX : CXT} {kk : Nat} {g pa Ca : Addr} {mc : Value} {nm y : Str} {fd : FuncData} {pms ks : List Str} {sp : Sp} {E : St → XK} {tk : TA} {ap p0 : Pos} {kws : List Keyword} {gf : List Value → List Value → List Value} {gV : List V → List V → List V} (hg : Gl X y) (hm : X.mg y = some (.ref Ca)) (hdb : (y == ("__debug__" : Str)) = false) (r : ClX.CRead X.K Ca mc) (c : ClX.CMet X.K Ca mc nm pa g)
    (F : FnA rp X.prog X.w X.K X.mg X.base CX kk g fd pms sp) (gd : rp = true → X.A.guards = some []) (hr : Room kk X.A) (hb : KBn X.K fd pms 1 ks gf gV) (hx : ∀ σ, PasA CX X σ (E σ)) (hkw : PK X kws tk) (hall : (kws.all fun k => (kwName k).isSome) = true) (hks : kws.filterMap kwName = ks) (hl : kws.length < 29) (hline : (ap.endLine == pos.line) = true) :
    PE X (.Call (.Attribute (.Name y p0) nm ap) [] kws pos) (fun σ H Q => tk σ H fun zs H1 => zs.length = ks.length ∧ sp (gV [.ref Ca] zs) H1 Q (E σ)) := by
  refine ⟨fun pins s σ H Q I h => ?_⟩
  refine call_meth (base_of rfl) ?_ hline (ld_glob I hg hm (fun pl => ?_) hdb)
  · unfold methodCallForm
    rw [kw_all hall]
    show (true && true && decide _) = true
    refine (Bool.and_eq_true _ _).mpr ⟨rfl, decide_eq_true ?_⟩
    simp only [List.length_nil]
    split <;> omega
  refine ClX.getmethcm_ok I r c fun s2 I2 => ?_
  refine PySem.W.callWith_of (by rw [kw_any hall]; rfl) (PySem.W.keeps_M (q := s.heap.objs.size) (self := .ref Ca) c.fi) (PyProof.Rows.evalArgs_kw2_nil (kw_all hall) ?_)
  refine thn (hkw.run pos _ s2 σ H _ I2 h) fun ws s3 ⟨zs, H2, I3, rz, l2, q2⟩ => ⟨⟨ClX.pin_at I3, I3.kIn⟩, ?_⟩
  rw [kw_map, hks]
  have z : wpAny (model X.prog X.w) X.A (PySem.call (.ref s.heap.objs.size) [] (ks.zip ws)) (EP X ((s.heap.objs.size, PySem.W.methodObj (.ref g) (.ref Ca)) :: pins) σ Q) X.xe s3 := by
    have rr := hb.rel (vs := [.ref Ca]) (us := [.ref Ca]) (.cons (show RelV (.ref Ca) (.ref Ca) from rfl) .nil) rz
    refine wpAny_call (PySem.W.method_call (ClX.pin_at I3) (codeAny_mono (F.go gd hr (hx σ) (args := ⟨[.ref Ca], ks.zip ws⟩) (hb.to s3 [.ref Ca] ws I3.kIn rfl (rz.length.symm.trans l2)) I3 rr q2) fun z s' hq => ?_))
    match z, hq with
    | .error e, hq => exact hq
    | .ok (.ret u), hq => exact hq
  exact thn z fun _ _ y => ClX.unpinE y
/-! a class that stands in a local -/
theorem pe_locA {CX : CXT} {kk i : Nat} {f Ca : Addr} {fd : FuncData} {pms : List Str} {sp : Sp} {E : St → XK} {y : Str} {p0 : Pos} {t : TA} (M : Mk X.K Ca f) (F : FnA true X.prog X.w X.K X.mg X.base CX kk f fd pms sp) (gd : X.A.guards = some []) (hr : Room (kk + 1) X.A) (hN : X.N[i]? = some y) (hv : Vis X.env.scope y) (hb : Binds X.K fd pms []) (hx : ∀ σ, PasA CX X σ (E σ))
    (ha : PA X (e :: es) t) (hd1 : (y == ("__debug__" : Str)) = false) (hd2 : (y == ("__classdict__" : Str)) = false) (hs : noStar (e :: es) = true) :
    PE X (.Call (.Name y p0) (e :: es) [] pos) (fun σ H Q => σ[i]? = some (some (.ref Ca)) ∧ t σ H fun vs H1 => ∀ x dx, H1 x = none → H1 dx = none → dx ≠ x → sp (.ref x :: vs) (upd (upd H1 dx (.own x)) x (.ins Ca dx [])) (fun v H2 => v = .non ∧ Q (.ref x) H2) (E σ)) := by
  have hs' := Bool.and_eq_true_iff.mp (show (notSt e && es.all notSt) = true from hs)
  refine ⟨fun pins s σ H Q I ⟨ei, h⟩ => ?_⟩
  refine wpAny_Call_Name_kw ?_
  have pv := (pe_var (X := X) (pos := p0) hN hv hd1 hd2).run pins s σ H (fun v H1 => v = .ref Ca ∧ H1 = H) I ⟨.ref Ca, ei, rfl, rfl⟩
  refine thn pv fun u s1 ⟨v, H1, I1, rv, ev, eH⟩ => ?_
  subst ev eH
  have eu : u = Value.ref Ca := rv
  subst eu
  refine PySem.W.callWith_K (h₀ := X.base) I.ok.mod.kin M.kp (thn (ha.run pos pins s1 σ H1 _ I1 h) fun us s2 ⟨vs, H2, I2, r, q⟩ => ⟨I2.kIn, ?_⟩) (star_cons hs'.1) (star_any hs'.2)
  exact run_makeA M F gd hr hb (hx σ) I2 r q
end
end DL

set_option Elab.async false
set_option linter.all false
set_option maxRecDepth 100000
set_option maxHeartbeats 4000000
namespace DL
open PySem L2
section
variable {X : Cx} {o e : Expr} {es : List Expr} {to te : TE} {t : TA} {fn : Str} {p p0 p1 p2 ap pos : Pos}
/-- B.__init__(self, ..), B an own class over Exception without an __init__ -/
theorem pe_initE {y : Str} {FE : Addr} {mc : Value} (hg : Gl X y) (hm : X.mg y = some (.ref FE)) (hdb : (y == ("__debug__" : Str)) = false) (r : ClX.CRead X.K FE mc) (at_ : PySem.W.findCls X.K (.ref FE) mc "__init__" = some (.val (.builtin "Exception.__init__")))
    (ha : PA X (e :: es) t) (hs : noStar (e :: es) = true) (hl : (e :: es).length < 30) (hline : (ap.endLine == pos.line) = true) :
    PE X (.Call (.Attribute (.Name y p0) "__init__" ap) (e :: es) [] pos) (fun σ H Q => t σ H fun vs H1 => ∃ (a Ca : Addr) (ws : List V), vs = .ref a :: ws ∧ ws.length ≤ 1000 ∧ OexE X.K Ca ∧ H1 a = some (exo a Ca none) ∧ Q .non H1) := by
  have hs' := Bool.and_eq_true_iff.mp (show (notSt e && es.all notSt) = true from hs)
  refine ⟨fun pins s σ H Q I h => ?_⟩
  refine call_meth (base_of rfl) (by unfold methodCallForm; exact star_few hs hl) hline (ld_glob I hg hm (fun pl => ?_) hdb)
  refine PySem.W.method_cls I.kIn r.ga (PySem.W.cls_value I.kIn r.rd at_ (by decide +kernel) ?_)
  refine PyProof.Rows.callWith_method1 (thn (ha.run pos pins _ σ H _ (I.tok _) h) fun us s1 ⟨vs, H1, I1, rv, a, Ca, ws, ev, hz, T, ea, q⟩ => ?_) (star_cons hs'.1) (star_any hs'.2)
  subst ev
  cases rv with
  | @cons _ u0 _ ur ra rw1 =>
    have eu : u0 = Value.ref a := ra
    subst eu
    refine oinitE T I1 ea ?_ fun s2 J => ⟨.non, H1, J, rfl, q⟩
    rw [← rw1.length]
    exact Nat.le_trans hz (by decide)
/-- self.f = e on such an exception -/
theorem ps_ostE (ho : PE X o to) (he : PE X e te) (hs : swapsWith e (some (.Attribute o fn p1)) pos.line X.env = pure false) : PS X (.Assign [.Attribute o fn p1] e pos) (fun D σ H => te σ H fun y H1 => to σ H1 fun x H2 => ∃ a Ca : Addr, x = .ref a ∧ OexE X.K Ca ∧
    PySem.W.findIn X.K (.ref Ca) fn = some none ∧ H2 a = some (exo a Ca none) ∧ ∀ dx, H2 dx = none → dx ≠ a → D.nx σ (upd (upd H2 dx (exd dx [(fn, y)])) a (exo a Ca (some dx)))) := by
  refine ⟨fun pins s σ H D I h => plainObj_wpAny_Assign_Attribute (thn (he.run pins s σ H _ I h) fun v s1 ⟨y, H1, I1, r1, q1⟩ => thn (ho.run pins s1 σ H1 _ I1 q1) fun u s2 ⟨x, H2, I2, r2, a, Ca, ex, T, hno, ea, q⟩ => ?_) hs⟩
  subst ex
  have eu : u = Value.ref a := r2
  subst eu
  exact ostE T I2 ea hno r1 fun dx s3 n ne J => ⟨σ, _, J, q dx n ne⟩
end
/-! ### C(..): an exception, new -/
section
variable {X : Cx} {pins : List (Addr × Obj)} {σ : St} {H1 : Hp} {Q : XK} {hp hp2 h2 : Heap} {g1 g2 : Array GenState} {d1 d2 : Drawn} {t1 t2 : Nat} {os1 os2 : OsState} {a Ca : Addr}
/-- one without fields is let go -/
theorem mk_bare (I1 : Inv X pins σ H1 ⟨hp, g1, d1, t1, os1⟩) (ha : hp.objs.size ≤ a) (kp : ∀ b o, hp.get? b = some o → hp2.get? b = some o) (un : Un (frs X.stack) [] (upd H1 a (exo a Ca none)) (upd H1 a (exo a Ca none)) hp2 h2) (hok : HOk X.prog X.w (upd H1 a (exo a Ca none)) h2)
    (eo : os2 = os1) (hb : PyProof.Rows.AllBare g2) (T : Raises X (.ref Ca)) (q : Q (.ref Ca) none H1) : MkP X pins σ Q (.ref a) ⟨h2, g2, d2, t2, os2⟩ := by
  obtain ⟨t0, hoe⟩ := exo_at hok upd_same
  have hn : H1 a = none := I1.hok.fresh ha
  obtain ⟨G, in1, out1⟩ := restrict h2 fun b => decide (b ≠ a)
  have gk : ∀ b, b ≠ a → G.get? b = h2.get? b := fun b z => in1 b (decide_eq_true z)
  have ge : G.get? a = none := out1 a (by simp)
  have na : ∀ {b : Addr} {o : Obj}, hp.get? b = some o → b ≠ a := fun {b o} z e => Nat.lt_irrefl a (Nat.lt_of_lt_of_le (e ▸ Heap.lt_size z) ha)
  have U : Un (frs X.stack) [] H1 H1 hp G := by
    refine ⟨fun b o z n hf hx => (gk b (na z)).trans (un.keep b o (kp b o z) (upd_none (na z) n) hf hx), fun b o z n hf hx => ?_, fun b o z n hx => n, fun b o z hx => ?_, fun b xs z => z, fun b o v z => z, fun b ps z => ⟨#[], by rw [z]; simp⟩⟩
    · obtain ⟨sl, e⟩ := un.slot b o (kp b o z) (upd_none (na z) n) hf hx
      exact ⟨sl, (gk b (na z)).trans e⟩
    · obtain ⟨o1, e⟩ := un.there b o (kp b o z) hx
      exact ⟨o1, (gk b (na z)).trans e⟩
  have hok3 : HOk X.prog X.w H1 G := fun b o z => by
    have ba : b ≠ a := ne_of_none z hn
    refine (hok b o (by rw [upd_ne ba]; exact z)).stay (fun c v hc y => (gk c ?_).trans y) (fun c hc => ?_) fun c xs hc => ?_
    · rcases hc with rfl | hc
      · exact ba
      · exact at_ne upd_same hc exo_own
    · rw [upd_ne (at_ne upd_same hc exo_own)] at hc; exact hc
    · rw [upd_ne (at_ne upd_same hc exo_tup)] at hc; exact hc
  have J : Inv X pins σ H1 ⟨G, g2, d2, t2, os2⟩ := I1.call' (ch := []) eo U hok3 hb (fun b z => absurd z (by simp))
  refine ⟨a, _, _, ⟨G, g2, d2, t2, os2⟩, H1, .ref Ca, none, rfl, J, fun b o z => ?_, ge, hoe, ⟨rfl, rfl⟩, rfl, rfl, hn, rfl, hb, T, q⟩
  by_cases e : b = a
  · rw [e, show (⟨G, g2, d2, t2, os2⟩ : Shared).heap.get? a = none from ge] at z; cases z
  · exact (gk b e).symm.trans z
end
section
variable {X : Cx} {es : List Expr} {t : TA} {p pos : Pos} {y : Str}
theorem run_mkE {CX : CXT} {kk : Nat} {Ca fI : Addr} {fd : FuncData} {ps fs : List Str} {pins : List (Addr × Obj)} {σ : St} {H1 : Hp} {Q : XK} {s1 : Shared} {us : List Value} {vs : List V} (T : OexE X.K Ca) (iC : PySem.W.findIn X.K (.ref Ca) "__init__" = some (some (.ref fI))) (tI : PySem.W.typeIn X.K (.ref fI) = some (.type "function"))
    (F1 : FnA true X.prog X.w X.K X.mg X.base CX kk fI fd ps (spX Ca fs)) (gd : X.A.guards = some []) (hr : Room (kk + 1) X.A) (hb : Binds X.K fd ps []) (hlen : ps.length = fs.length + 1) (hfs : fs.length ≤ 1) (hx : ∀ σ, PasA CX X σ (fun _ _ _ => False))
    (I1 : Inv X pins σ H1 s1) (r1 : Vals vs us) (hv : vs.length = fs.length) (q0 : fs = [] → Q (.ref Ca) none H1) (q1 : ∀ f v, fs = [f] → vs = [v] → ∀ dx, H1 dx = none → Q (.ref Ca) (some dx) (upd H1 dx (.xd [(f, v)]))) :
    wpAny (model X.prog X.w) X.A (PySem.call (.ref Ca) us) (MkP X pins σ Q) X.xe s1 := by
  obtain ⟨c1, c2, c3, c4, c5, c6, c7, c8, c9, c10, _, _, _, _, _, look, hbm⟩ := T.obj
  obtain ⟨hp, gs, dr, tk, oz⟩ := s1
  have hsz : hp.objs.size ≤ hp.objs.size + 1 := Nat.le_succ _
  generalize ea : hp.objs.size + 1 = a at hsz
  have hn : H1 a = none := I1.hok.fresh hsz
  have kk2 : ∀ b o, hp.get? b = some o → ((hp.push (PySem.W.kdv_tup us)).push (PySem.HandSPX.excO Ca hp.objs.size)).get? b = some o := fun b o e => Heap.get?_push_of_some _ (Heap.get?_push_of_some _ e)
  have hget : ((hp.push (PySem.W.kdv_tup us)).push (PySem.HandSPX.excO Ca hp.objs.size)).get? a = some (PySem.HandSPX.excO Ca hp.objs.size) := by
    rw [← ea]; heap_get
  have I2 : Inv X pins σ (upd H1 a (exo a Ca none)) ⟨(hp.push (PySem.W.kdv_tup us)).push (PySem.HandSPX.excO Ca hp.objs.size), gs, dr, tk, oz⟩ :=
    I1.laid (t' := tk) (a := a) (o := exo a Ca none) (h' := (hp.push (PySem.W.kdv_tup us)).push (PySem.HandSPX.excO Ca hp.objs.size)) kk2 hsz (exo_ok hget)
  have r2 : Vals (V.ref a :: vs) (Value.ref a :: us) := .cons rfl r1
  have bt := hb _ (Value.ref a :: us) I2.kIn (by rw [List.append_nil, List.length_cons, ← r1.length, hv, hlen])
  rw [List.append_nil] at bt
  have hus : us.length ≤ sizeLine := by
    rw [← r1.length, hv]
    exact Nat.le_trans hfs (by decide)
  have hsp : spX Ca fs (.ref a :: vs) (upd H1 a (exo a Ca none)) (fun v H2 => v = .non ∧ ((fs = [] ∧ H2 = upd H1 a (exo a Ca none)) ∨ ∃ f v dx, fs = [f] ∧ vs = [v] ∧ H1 dx = none ∧ dx ≠ a ∧ H2 = upd (upd (upd H1 a (exo a Ca none)) dx (exd dx [(f, v)])) a (exo a Ca (some dx)))) (fun _ _ _ => False) := by
    refine ⟨a, vs, rfl, hv, upd_same, fun e => ⟨rfl, .inl ⟨e, rfl⟩⟩, fun f v e1 e2 dx n ne => ⟨rfl, .inr ⟨f, v, dx, e1, e2, ?_, ne, rfl⟩⟩⟩
    rw [upd_ne ne] at n; exact n
  have TR : Raises X (.ref Ca) := raises_own T.ex T.ty
  refine wpAny_call (PySem.HandSPX.call_own F.excBase_Exception (fun Y => rfE_has Y c5 hbm) (I1.kIn _ _ look) (PySem.W.looks_findIn I1.kIn iC) (fun self => PySem.W.bind_fn I1.kIn self tI) hus ?_)
  rw [ea]
  refine codeAny_mono (F1.run _ X.stack _ _ ⟨.ref a :: us, []⟩ (.ref a :: us) _ _ (fun _ _ _ => False) (fun _ => make_gd gd) (hr.make Ca us []) (I2.env0.make Ca us []) bt r2 hsp) fun r s' hq' => ?_
  match r, hq' with
  | .error er, hq' => exact hx σ pins _ _ er s' I2 hq'
  | .ok (.ret u), hq' =>
    obtain ⟨v, H2, os2, bare2, un2, hok2, rv, ev, alt⟩ := hq'
    subst ev
    obtain ⟨h2, g2, d2, t2, oz2⟩ := s'
    refine ⟨rv, ?_⟩
    rcases alt with ⟨e, rfl⟩ | ⟨f, v, dx, e1, e2, n, ne, rfl⟩
    · exact mk_bare I1 hsz kk2 un2 hok2 os2 bare2 TR (q0 e)
    · have fin := q1 f v e1 e2 dx n
      refine mk_end TR I1 hsz kk2 un2 hok2 os2 bare2 upd_same (by rw [upd_ne ne, upd_same]) n ?_
      have eH : upd (del (upd (upd (upd H1 a (exo a Ca none)) dx (exd dx [(f, v)])) a (exo a Ca (some dx))) a) dx (.xd [(f, v)]) = upd H1 dx (.xd [(f, v)]) := funext fun b => by
        by_cases z : b = dx
        · rw [z, upd_same, upd_same]
        · rw [upd_ne z, upd_ne z]
          by_cases z2 : b = a
          · rw [z2, del_same, hn]
          · rw [del_ne z2, upd_ne z2, upd_ne z, upd_ne z2]
      rw [eH]
      exact fin
  | .ok .next, hq' => exact hq'.elim
  | .ok .brk, hq' => exact hq'.elim
  | .ok .cont, hq' => exact hq'.elim
theorem pmkE {CX : CXT} {kk : Nat} {Ca fI : Addr} {fd : FuncData} {ps fs : List Str} (T : OexE X.K Ca) (iC : PySem.W.findIn X.K (.ref Ca) "__init__" = some (some (.ref fI))) (tI : PySem.W.typeIn X.K (.ref fI) = some (.type "function"))
    (F1 : FnA true X.prog X.w X.K X.mg X.base CX kk fI fd ps (spX Ca fs)) (gd : X.A.guards = some []) (hr : Room (kk + 1) X.A) (hb : Binds X.K fd ps []) (hlen : ps.length = fs.length + 1) (hfs : fs.length ≤ 1) (hx : ∀ σ, PasA CX X σ (fun _ _ _ => False))
    (hg : Gl X y) (hm : X.mg y = some (.ref Ca)) (hdb : (y == ("__debug__" : Str)) = false) (ha : es ≠ [] → PA X es t) (h0 : es = [] → ∀ σ H Q, t σ H Q → Q [] H) (hs : noStar es = true) :
    PMk X (.Call (.Name y p) es [] pos) (fun σ H Q => t σ H fun vs H1 => vs.length = fs.length ∧ (fs = [] → Q (.ref Ca) none H1) ∧ ∀ f v, fs = [f] → vs = [v] → ∀ dx, H1 dx = none → Q (.ref Ca) (some dx) (upd H1 dx (.xd [(f, v)]))) := by
  intro pins s σ H Q I h
  refine wpAny_Call_Name_kw (ld_glob I hg hm ?_ hdb)
  cases es with
  | nil =>
    obtain ⟨hv, q0, q1⟩ := h0 rfl _ _ _ h
    exact PySem.W.callWith_K0 (first := []) I.kIn T.kp (run_mkE T iC tI F1 gd hr hb hlen hfs hx I .nil hv q0 q1)
  | cons e es =>
    have hs' := Bool.and_eq_true_iff.mp (show (notSt e && es.all notSt) = true from hs)
    refine PySem.W.callWith_K (h₀ := X.base) I.ok.mod.kin T.kp (thn ((ha (List.cons_ne_nil _ _)).run pos pins s σ H _ I h) fun us s1 ⟨vs, H1, I1, r1, hv, q0, q1⟩ => ⟨I1.kIn, ?_⟩) (star_cons hs'.1) (star_any hs'.2)
    exact run_mkE T iC tI F1 gd hr hb hlen hfs hx I1 r1 hv q0 q1
end
end DL

set_option Elab.async false
set_option linter.all false
set_option maxRecDepth 100000
set_option maxHeartbeats 4000000
/-! Properties, classmethods, operators of own classes, f-strings: by data. -/
namespace DL
open PySem L2
section
variable {R : RP} {C : XCl} {Γ : Gm} {B m ng : Nat} {EX : WX} {N : List Str} {sc : Scope} {fb : Str → Bool} {X : Cx} {F : FrD} {σ : St} {ρ ρ' ρ1 : Rho} {H H' H1 : Hp} {n n' n1 c nb : Nat}
variable {a b e1 e o : Expr} {es : List Expr} {p q r : E} {ps qs : Es} {pos : Pos} {Q : VK}

/-- a callee that lets nothing out -/
theorem sp_of0 {k c1 ar fc : Nat} {rs : List Rv} {vs : List V} {ds : List D} {Q : VK} {x : Xr} {Q2 : Rv → Rho → Prop} {phi : List D → (D → Prop) → Xp → Prop} (P : Pre R C B EX F σ ρ H n k nb x) (s : Stp R F σ ρ H n c1 ρ1 H1 n1) (hk : c1 + fc ≤ k)
    (r : RepAll R (MM F (freezeAll ρ1 rs) σ) H1 vs ds) (hl : ds.length = ar) (hm : ∀ (Q Q' : D → Prop), (∀ z, Q z → Q' z) → phi ds Q noXp → phi ds Q' noXp)
    (h : phi ds (fun z => Q2 (.pr z) (frz z.flat ρ1 rs)) noXp)
    (hQ : ∀ r ρ', Q2 r ρ' → ∀ v H' n', Stp R F σ ρ H n k ρ' H' n' → RvOk R F ρ' σ H' r v → Q v H') : spP R C B ar fc phi vs H1 Q fun _ _ _ => False :=
  sp_of (EX := fun _ _ _ _ => False) (x := noX) ⟨P.rl, P.le, P.B, xok_none⟩ s hk r hl hm h hQ
theorem s_prop {ci f : Nat} {nm : Str} (k : Ctx R C Γ B m ng EX N sc fb X) (hf : f < m) (hk : Γ.fk f = .prp ci) (hc : ci < Γ.ncl) (hy : Γ.fname f = nm) (ha : PE X a (tE R C Γ B EX p)) (hb : notBase a = true) : PE X (.Attribute a nm pos) (tE R C Γ B EX (.propm ci f p)) := by
  have kf := k.fns f hf
  unfold FnD at kf
  rw [hk] at kf
  obtain ⟨ad, pa, fd, pms, m0, lm, hp, hF, hpl, hbd⟩ := kf
  subst hy
  refine imE (pe_propA ha (k.cl ci hc).cls hp hF (fun _ => k.gd) (k.room.mono lm) hbd hb ?_) fun σ H Q ⟨F, ρ, n, nb, x, P, h⟩ => ?_
  · rintro H s e s' ⟨_, _, _, _, _, _, _, _, _, _, _, _, z⟩
    exact z
  simp only [wE] at h
  simp only [cE] at P h
  refine ⟨F, ρ, n, nb, x, P.dn (by omega), wE_mono p (xid x) (fun r ρ1 h v H1 n1 s1 r1 => ?_) h⟩
  obtain ⟨ds, rr, ⟨fs, rfl⟩, hl, h⟩ := freeze_rep s1.rl [r] (fun _ z => z) (show RvsOk R F ρ1 σ H1 [r] [v] from ⟨r1, True.intro⟩) h
  refine ⟨?_, sp_of0 P s1 (by omega) rr hl (fun Q Q' hq => Γ.pmono f _ Q Q' _ _ hq (fun _ _ h => h)) h fun r ρ' h => h⟩
  cases rr with
  | cons r0 _ =>
    obtain ⟨a', dx, fvs, rfl, _, hh, _, _⟩ := r0.invO
    exact ⟨a', dx, fvs, rfl, hh⟩
theorem s_cm {ci f : Nat} {y nm : Str} {p0 ap : Pos} (k : Ctx R C Γ B m ng EX N sc fb X) (hf : f < m) (hk : Γ.fk f = .cm ci) (hc : ci < Γ.ncl) (hy : Γ.cnm ci = y) (hn : Γ.fname f = nm) (hg : Gl X y) (hdb : (y == ("__debug__" : Str)) = false) (ha : PA X (e :: es) (tAs R C Γ B EX ps)) (hs : noStar (e :: es) = true) (hl : (e :: es).length < 30) (hline : (ap.endLine == pos.line) = true) :
    PE X (.Call (.Attribute (.Name y p0) nm ap) (e :: es) [] pos) (tE R C Γ B EX (.cm ci f ps)) := by
  have kf := k.fns f hf
  unfold FnD at kf
  rw [hk] at kf
  obtain ⟨ad, pa, mc, fd, pms, hm, hr, hcm, hF, hpl, hbd, _⟩ := kf
  subst hy hn
  refine imE (pe_cmethA hg hm hdb hr hcm hF (fun _ => k.gd) k.room hbd k.pas ha hs hl hline) fun σ H Q ⟨F, ρ, n, nb, x, P, h⟩ => ?_
  simp only [wE] at h
  simp only [cE] at P h
  refine ⟨F, ρ, n, nb, x, P.dn (Nat.le_add_right _ _), wAs_mono ps (xid x) (fun rs ρ1 h vs H1 n1 s1 r1 => ?_) h⟩
  obtain ⟨ds, rr, hl, h⟩ := freeze_rep s1.rl rs (fun _ z => z) r1 h
  exact sp_of P s1 (Nat.le_refl _) (.cons ((k.cl ci hc).at_ ▸ .atom _) rr) hl (fun Q Q' hq => Γ.pmono f _ Q Q' _ _ hq (fun _ _ h => h)) h fun r ρ' h => h
theorem s_cmk {ci j : Nat} {y nm : Str} {p0 ap : Pos} {kws : List Keyword} (k : Ctx R C Γ B m ng EX N sc fb X) (hf : (Γ.ks j).f < m) (hk : Γ.fk (Γ.ks j).f = .cm ci) (hpl : (Γ.ks j).perm.length = Γ.arity (Γ.ks j).f) (hc : ci < Γ.ncl) (hy : Γ.cnm ci = y) (hn : Γ.fname (Γ.ks j).f = nm) (hnp : (Γ.ks j).np = 1) (hg : Gl X y) (hdb : (y == ("__debug__" : Str)) = false)
    (hkw : PK X kws (tAs R C Γ B EX ps)) (hall : (kws.all fun k => (kwName k).isSome) = true) (hks : kws.filterMap kwName = (Γ.ks j).ks) (hl : kws.length < 29) (hline : (ap.endLine == pos.line) = true) :
    PE X (.Call (.Attribute (.Name y p0) nm ap) [] kws pos) (tE R C Γ B EX (.cmk ci j ps)) := by
  have kf := k.fns _ hf
  unfold FnD at kf
  rw [hk] at kf
  obtain ⟨ad, pa, mc, fd, pms, hm, hr, hcm, hF, hpl', hbd, hk2⟩ := kf
  obtain ⟨g, gV, dvs, hb, hd, hi, hV⟩ := hk2 j rfl
  subst hy hn
  rw [hnp] at hb
  refine imE (pe_cmethKA hg hm hdb hr hcm hF (fun _ => k.gd) k.room hb k.pas hkw hall hks hl hline) fun σ H Q ⟨F, ρ, n, nb, x, P, h⟩ => ?_
  simp only [wE] at h
  simp only [cE] at P h
  refine ⟨F, ρ, n, nb, x, P.dn (Nat.le_add_right _ _), wAs_mono ps (xid x) (fun rs ρ1 h vs H1 n1 s1 r1 => ?_) h⟩
  obtain ⟨_, l2, h⟩ := h
  have m2 : vs.length = (Γ.ks j).ks.length := by rw [← l2, r1.length]
  refine ⟨m2, ?_⟩
  obtain ⟨ds, rr, h⟩ := freeze_rep s1.rl rs (fun _ z => z) r1 h
  have ld : ds.length = (Γ.ks j).ks.length := by rw [← rr.length, m2]
  rw [hV [.ref (R.cls ci)] vs (by rw [hnp]; rfl) m2]
  refine sp_of P s1 (Nat.le_refl _) (ds := (Γ.ks j).put (.atom (2 * ci + 2) :: ds)) ?_ (by unfold KS.put; rw [List.length_map, hpl]) (fun Q Q' hq => Γ.pmono _ _ Q Q' _ _ hq (fun _ _ h => h)) h fun r ρ' h => h
  have r0 : Rep R (MM F (freezeAll ρ1 rs) σ) H1 (.ref (R.cls ci)) (.atom (2 * ci + 2)) := (k.cl ci hc).at_ ▸ .atom _
  exact perm_rep (vs := .ref (R.cls ci) :: vs ++ dvs) ((RepAll.cons r0 rr).append (hd _ _)) fun i hm => by
    have := hi i hm
    rw [List.length_append, List.length_cons, ld]; omega
theorem s_appb2 {op : Operator} {ci f : Nat} (k : Ctx R C Γ B m ng EX N sc fb X) (hf : f < m) (hk : Γ.fk f = .mth ci) (hc : ci < Γ.ncl) (hy : Γ.fname f = PySem.dunder op.info.2) (ha : PE X a (tE R C Γ B EX p)) (hbb : PE X b (tE R C Γ B EX q)) :
    PE X (.BinOp a op b pos) (tE R C Γ B EX (.appb op ci f p q)) := by
  have kf := k.fns f hf
  unfold FnD at kf
  rw [hk] at kf
  obtain ⟨ad, fd, pms, m0, lm, hm, hfi, hF, hpl, hb, _⟩ := kf
  rw [hy] at hm
  refine imE (pe_opS (fun σ => op_binA (k.cl ci hc).sf hm hF (fun _ => k.gd) (k.room.mono (by omega)) hb (k.pas σ)) ha hbb) fun σ H Q ⟨F, ρ, n, nb, x, P, h⟩ => ?_
  simp only [wE] at h
  simp only [cE] at P h
  refine ⟨F, ρ, n, nb, x, P.dn (by omega), wE_mono p (xid x) (fun r ρ1 h v H1 n1 s1 r1 => ?_) h⟩
  refine ⟨F, ρ1, n1, nb, x, P.go s1 (by omega), wE_mono q (xid x) (fun rq ρ2 h u H2 n2 s2 r2 => ?_) h⟩
  have s12 := s1.trans s2
  obtain ⟨ds, rr, ⟨fs, gs, rfl⟩, hl, h⟩ := freeze_rep s12.rl [r, rq] (fun _ z => z) (show RvsOk R F ρ2 σ H2 [r, rq] [v, u] from ⟨r1.keep s2, r2, True.intro⟩) h
  refine ⟨?_, sp_of P s12 (by omega) rr hl (fun Q Q' hq => Γ.pmono f _ Q Q' _ _ hq (fun _ _ h => h)) h fun r ρ' h => h⟩
  cases rr with
  | cons r0 t =>
    cases t with
    | cons r1' _ =>
      obtain ⟨a1, d1, f1, rfl, _, h1, _, _⟩ := r0.invO
      obtain ⟨a2, d2, f2, rfl, _, h2, _, _⟩ := r1'.invO
      exact ⟨⟨a1, d1, f1, rfl, h1⟩, ⟨a2, d2, f2, rfl, h2⟩⟩
end
end DL

set_option Elab.async false
set_option linter.all false
set_option maxRecDepth 100000
set_option maxHeartbeats 4000000
/-! A class that stands in a local; f-strings; stars in displays. -/
namespace DL
open PySem L2
section
variable {R : RP} {C : XCl} {Γ : Gm} {B m ng : Nat} {EX : WX} {N : List Str} {sc : Scope} {fb : Str → Bool} {X : Cx} {F : FrD} {σ : St} {ρ ρ' ρ1 : Rho} {H H' H1 : Hp} {n n' n1 c nb : Nat}
variable {a b e1 e o : Expr} {es : List Expr} {p q r : E} {ps qs : Es} {pos : Pos} {Q : VK}
theorem s_appv {i ci f : Nat} {y : Str} {p0 : Pos} (k : Ctx R C Γ B m ng EX N sc fb X) (hf : f < m) (hk : Γ.fk f = .new ci) (hc : ci < Γ.ncl) (hN : N[i]? = some y) (hv : Vis X.env.scope y) (ha : PA X (e :: es) (tAs R C Γ B EX ps)) (hd1 : (y == ("__debug__" : Str)) = false) (hd2 : (y == ("__classdict__" : Str)) = false) (hs : noStar (e :: es) = true) :
    PE X (.Call (.Name y p0) (e :: es) [] pos) (tE R C Γ B EX (.appv i ci f ps)) := by
  have kf := k.fns f hf
  unfold FnD at kf
  rw [hk] at kf
  obtain ⟨ad, fd, pms, m0, lm, hm, hM, hF, hpl, hb, _⟩ := kf
  refine imE (pe_locA hM hF k.gd (k.room.mono lm) (k.eN ▸ hN) hv hb k.pas ha hd1 hd2 hs) fun σ H Q ⟨F, ρ, n, nb, x, P, h⟩ => ?_
  simp only [wE] at h
  simp only [cE] at P h
  refine ⟨?_, new_core ⟨F, ρ, n, nb, x, P, h.2⟩⟩
  obtain ⟨v, e1, r1⟩ := P.rl.pv i _ h.1
  cases r1
  rw [e1, (k.cl ci hc).at_]
/-! f-strings -/
def tP (R : RP) (C : XCl) (Γ : Gm) (B : Nat) (EX : WX) (p : E) : TE := fun σ H Q => ∃ F ρ n nb x, Pre R C B EX F σ ρ H n (cE Γ p) nb x ∧ wE Γ x p ρ fun r ρ' => useR ρ' r fun d => ∃ y, textD d = some y ∧ ∀ H' n', SOk y → Stp R F σ ρ H n (cE Γ p) ρ' H' n' → Q (.str y) H'
theorem p_fmt (he : PE X a (tE R C Γ B EX p)) : PE X (.FormattedValue a (-1) none pos) (tP R C Γ B EX p) := imE (pe_fmt he) fun σ H Q ⟨F, ρ, n, nb, x, P, h⟩ => by
  refine ⟨F, ρ, n, nb, x, P, wE_mono p (xid x) (fun r ρ1 h v H1 n1 s1 r1 => ?_) h⟩
  obtain ⟨d, m1, y, e, h⟩ := r1.use s1.rl h
  unfold textD at e
  split at e
  · obtain ⟨rfl, k⟩ := m1.str
    cases e
    exact .inl ⟨_, rfl, k.1, h _ _ k s1⟩
  · cases m1.int
    split at e
    · rename_i hl
      cases e
      exact .inr ⟨_, rfl, hl, h _ _ (toStr_ok hl) s1⟩
    · cases e
  · cases e
theorem p_str {y : Str} (he : PE X a (tE R C Γ B EX (.str y))) : PE X a (tP R C Γ B EX (.str y)) := imE he fun σ H Q ⟨F, ρ, n, nb, x, P, h⟩ => by
  refine ⟨F, ρ, n, nb, x, P, ?_⟩
  simp only [wE, useR, textD] at h ⊢
  intro v H' n' s1 r1
  obtain ⟨z, e, h⟩ := h
  cases e
  cases (show Rep R (MM F ρ σ) H' v (.str y) from r1) with
  | str _ k => exact h _ _ k s1
def tsP (R : RP) (C : XCl) (Γ : Gm) (B : Nat) (EX : WX) : Es → List TE
  | .cons p r => tP R C Γ B EX p :: tsP R C Γ B EX r
  | _ => []
theorem fs_read : ∀ (ps : Es) {acc : Str} {σ : St} {H : Hp} {ρ : Rho} {n nb : Nat} {x : Xr} {Q : Str → Hp → Prop}, SOk acc → Pre R C B EX F σ ρ H n (cEs Γ ps) nb x → wF Γ x ps acc ρ (fun y ρ' => ∀ H' n', SOk y → Stp R F σ ρ H n (cEs Γ ps) ρ' H' n' → Q y H') → tJs (tsP R C Γ B EX ps) acc σ H Q
  | .nil, acc, σ, H, ρ, n, nb, x, Q, ha, P, h => by
    simp only [wF] at h
    exact h H n ha (P.rl.stp.up (Nat.zero_le _))
  | .star _ _, _, _, _, _, _, _, _, _, _, _, h => by
    simp only [wF] at h
  | .cons p ps, acc, σ, H, ρ, n, nb, x, Q, ha, P, h => by
    simp only [wF] at h
    simp only [cEs] at P h
    refine ⟨F, ρ, n, nb, x, P.dn (by omega), wE_mono p (xid x) (fun r ρ1 h => useR_mono (fun d ⟨y, e, l, h⟩ => ⟨y, e, fun H1 n1 ky s1 => ⟨y, rfl, l, ?_⟩⟩) h) h⟩
    refine fs_read ps (ha.app ky ?_) (P.go s1 (Nat.le_refl _)) (wF_mono ps (xid x) (fun z ρ2 h H2 n2 kz s2 => h H2 n2 kz (s1.trans s2)) h)
    have e : (acc ++ y).length = acc.length + y.length := by
      show (acc.cps ++ y.cps).size = acc.cps.size + y.cps.size
      exact Array.size_append
    omega
theorem s_fstr {v1 v2 : Expr} {rest : List Expr} (h : PJ X (v1 :: v2 :: rest) (tsP R C Γ B EX ps)) : PE X (.JoinedStr (v1 :: v2 :: rest) pos) (tE R C Γ B EX (.fstr ps)) := imE (pe_joined h) fun σ H Q ⟨F, ρ, n, nb, x, P, h⟩ => by
  simp only [wE] at h
  simp only [cE] at P h
  refine fs_read (F := F) ps (.mk (Nat.zero_le _) fun c hc => by cases hc) P (wF_mono ps (xid x) (fun y ρ1 h H1 n1 ky s1 => h _ H1 n1 s1 (.str y ky)) h)
/-! [.., *e, ..] -/
theorem star_hd {z : Pos} : starEach (.Starred e z :: es) X.env = (true, eval e X.env) :: starEach es X.env := rfl
theorem s_esS {z : Pos} (hK : R.K = X.K) (ha : PE X a (tE R C Γ B EX p)) (hr : PA X es (tEs R C Γ B EX ps)) : PA X (.Starred a z :: es) (tEs R C Γ B EX (.star p ps)) := imA (StX.pa_star ha hr star_hd) fun σ H Q ⟨F, ρ, n, nb, x, P, h⟩ => by
  simp only [wEs] at h
  simp only [cEs] at P h
  refine ⟨F, ρ, n, nb, x, P.dn (by omega), wE_mono p (xid x) (fun r ρ1 h v H1 n1 s1 r1 => ?_) h⟩
  obtain ⟨d, m1, xs, e, h⟩ := r1.use s1.rl h
  have fin : ∀ {p0 : Addr} {vs : List V}, (SqT X.K H1 p0 vs ∨ SqL X.K H1 p0 vs) → RepAll R (MM F ρ1 σ) H1 vs xs → v = .ref p0 → ∃ p0 vs, v = V.ref p0 ∧ (SqT X.K H1 p0 vs ∨ SqL X.K H1 p0 vs) ∧ tEs R C Γ B EX ps σ H1 fun ys H2 => Q (vs ++ ys) H2 := fun {p0 vs} hq rr ev => by
    refine ⟨p0, vs, ev, hq, F, ρ1, n1, nb, x, P.go s1 (Nat.le_refl _), wEs_mono ps (xid x) (fun ds ρ2 h ws H2 n2 s2 r2 => ?_) h⟩
    exact h _ H2 n2 (s1.trans s2) ((rr.keep s2.sub s2.ext).append r2)
  unfold starD at e
  split at e
  · cases e
    obtain ⟨p0, vs, rfl, h1, l1, rr⟩ := m1.lst
    exact fin (.inr (SqL.of h1)) rr rfl
  · cases e
    obtain ⟨p0, vs, rfl, h1, l1, rr⟩ := m1.tup
    exact fin (.inl (hK ▸ h1.sq)) rr rfl
  · cases e
/-! isinstance of an own class -/
theorem isc_D {c : Nat} {mg : Str → Option Value} (co : COk R Γ X.K mg c) (hK : R.K = X.K) {M : Addr → Prop} {v : V} {d : D} {b : Bool} {Q : VK} (h : Rdb R M H v d) (e : dIsc c d = some b) (q : Q (.bl b) H) : rIsi X.K [v, .ref (R.cls c)] H Q := by
  have nk : ∀ {T : String}, T ∈ clTys → PySem.W.kitOne X.K (.type T) (.ref (R.cls c)) = some false := fun {T} hT => co.nk T hT
  cases d with
  | non => cases h.non; cases e; exact ⟨_, _, _, _, _, rfl, .own _, .base .non, nk (by decide), q⟩
  | bl c => cases h.bl; cases e; exact ⟨_, _, _, _, _, rfl, .own _, .base (.bl _), nk (by decide), q⟩
  | int c => cases h.int; cases e; exact ⟨_, _, _, _, _, rfl, .own _, .base (.int _), nk (by decide), q⟩
  | str c => obtain ⟨rfl, _⟩ := h.str; cases e; exact ⟨_, _, _, _, _, rfl, .own _, .base (.str _), nk (by decide), q⟩
  | lst xs => obtain ⟨a, ys, rfl, h1, _⟩ := h.lst; cases e; exact ⟨_, _, _, _, _, rfl, .own _, .base (.lst h1), nk (by decide), q⟩
  | tup xs =>
    obtain ⟨a, ys, rfl, h1, _⟩ := h.tup; cases e
    rcases h1 with h1 | ⟨o, its, n, l1, l2, _⟩
    · exact ⟨_, _, _, _, _, rfl, .own _, .base (.tup h1.2), nk (by decide), q⟩
    · exact ⟨_, _, _, _, _, rfl, .own _, .kTuple (hK ▸ l1) l2, nk (by decide), q⟩
  | dct ks vs =>
    cases e
    rcases h with h | ⟨a, rfl, h⟩
    · cases h with
      | dct n h => exact ⟨_, _, _, _, _, rfl, .own _, .base (.dK h), nk (by decide), q⟩
    · cases h with
      | dct h => exact ⟨_, _, _, _, _, rfl, .own _, .base (.dK h), nk (by decide), q⟩
  | obj c' fs =>
    simp only [dIsc] at e
    split at e
    · rename_i hc
      cases e
      subst hc
      rcases h with h | ⟨a, rfl, h⟩
      · obtain ⟨a, dx, fvs, rfl, _, hh, _, _⟩ := h.invO
        have ic := co.ic
        exact ⟨_, _, _, _, _, rfl, .own _, .base (.ins hh ic.cl ic.ha ic.hn ic.htk ic.hm), ic.me, q⟩
      · cases h
    · cases e
  | atom => cases e
theorem s_isc {ci : Nat} {y : Str} {p0 p1 : Pos} (k : Ctx R C Γ B m ng EX N sc fb X) (hc : ci < Γ.ncl) (hy : Γ.cnm ci = y) (hg : Gl X "isinstance") (hg2 : Gl X y) (hd : (y == ("__debug__" : Str)) = false) (ha : PE X a (tE R C Γ B EX p)) (hs : notSt a = true) :
    PE X (.Call (.Name "isinstance" p0) [a, .Name y p1] [] pos) (tE R C Γ B EX (.isc ci p)) := by
  have co := k.cl ci hc
  subst hy
  refine imE (pe_callB call_isi hg (k.bl "isinstance" (by decide)) (by rfl) (pa_cons ha (pa_cons (pe_glob (v := .ref (R.cls ci)) hg2 co.gl rfl hd) pa_nil (star_cons rfl)) (star_cons hs)) (by decide) (by decide) (star_cons hs) (star_any rfl)) fun σ H Q ⟨F, ρ, n, nb, x, P, h⟩ => ?_
  simp only [wE] at h
  simp only [cE] at P h
  show tE R C Γ B EX p σ H _
  refine s_one P (Nat.le_refl _) h fun r ρ1 v H1 n1 h s1 r1 => ?_
  obtain ⟨d, r1, b, e, h⟩ := r1.use s1.rl h
  exact isc_D co k.eK r1 e ((s1.out h).now (.bl _))
end
end DL

set_option Elab.async false
set_option linter.all false
set_option maxRecDepth 100000
set_option maxHeartbeats 4000000
/-! != on two instances of one class with its own ==. -/
namespace DL
section
open PySem PySem.Spec PyProof.Rows PySem.SeqAt
variable {M : Model} {prog : Program} {w : World} {A : Around} {E : Value → Shared → Prop} {s : Shared} {K : PySem.W.Frag} {x y C f : Addr} {ox oy : Obj} {od odd : Option Obj}
theorem ifBound_objNe {args : List Value} {Q : Option Value → Shared → Prop} (X : K.In s.heap) (I : PySem.W.InstAt s.heap x ox C od) (hs : PySem.W.findIn K (.ref C) "__ne__" = some (some (.builtin "object.__ne__")))
    (h : wpAny M A (call (.builtin "object.__ne__") (.ref x :: args)) (fun v => Q (some v)) E s) : wpAny M A (callSpecialIfBound? (.ref x) "__ne__" args) Q E s := by
  simp only [callSpecialIfBound?, bindSpecialIfBound?]
  refine wpAny_holding (wpAny_bind (wpAny_bind (wpAny_bind (I.type.here ((PySem.W.looks_findIn X hs).here ?_)))))
  refine wpAny_bind (wpAny_askSetting (wpAny_ite ?_))
  have fin : wpAny M A (call (.builtin "object.__ne__") ([.ref x] ++ args) >>= fun v => pure (some v)) Q E s := wpAny_bind (wpAny_mono h (fun v s' h' => wpAny_pure h') fun _ _ h' => h')
  split
  · exact wpAny_bind (wpAny_of_eq (F.cmp_object.ne.bind _) (wpAny_pure (by exact fin)))
  · exact wpAny_tryCatch (wpAny_bind (wpAny_of_eq (F.cmp_object.ne.bind _) (wpAny_pure (by exact fin))))
theorem objNe_entryK {Q : Fin → Shared → Prop} (X : K.In s.heap) (I : PySem.W.InstAt s.heap x ox C od) (hs : PySem.W.findIn K (.ref C) "__eq__" = some (some (.ref f))) (hf : PySem.W.isFn K (.ref f) = true) (hu : A.units < cLine)
    (hcall : wpAny (model prog w) A (call (.ref f) [.ref x, .ref y]) (fun v s' => ∃ b, v = .bool b ∧ Q (.done (.ret (.bool (!b)))) s') E s) :
    wpAny (model prog w) A (Builtin.«object.__ne__» ⟨[.ref x, .ref y], []⟩) Q E s := by
  unfold Builtin.«object.__ne__»
  repeat (first
    | with_reducible refine wpAny_cRoomFor hu ?_
    | (refine wpAny_bind (m := callSpecialIfBound? (.ref x) (Str.ofString "__eq__") [.ref y])
        (PySem.W.ifBound_K X I hs hf (wpAny_mono hcall (fun r s' hr => by
          obtain ⟨b, rfl, hq⟩ := hr
          repeat (first | exact hq | exact wpAny_pure hq | exact wpAny_truthy_bool hq | (refine wpAny_bind (m := truthy (.bool _)) (wpAny_truthy_bool ?_)) | wp_step)) fun _ _ e => e)))
    | wp_step)
theorem ne_K {h₀ : Heap} {L : Addr} {m : Str → Option Value} {Q : Value → Shared → Prop} (hu : A.units + 1 < cLine) (Fr0 : Fr h₀ L s.heap m) (X₀ : K.In h₀) (I : PySem.W.InstAt s.heap x ox C od) (J : PySem.W.InstAt s.heap y oy C odd)
    (hm : PySem.W.mroIn K C (.type "object") = some true) (hn : PySem.W.findIn K (.ref C) "__ne__" = some (some (.builtin "object.__ne__"))) (hs : PySem.W.findIn K (.ref C) "__eq__" = some (some (.ref f))) (hf : PySem.W.isFn K (.ref f) = true)
    (h : wpAny (model prog w) A.in1 (call (.ref f) [.ref x, .ref y]) (fun v s' => ∃ b, v = .bool b ∧ Q (.bool (!b)) s') E s) : wpAny (model prog w) A (compareOp .NotEq (.ref x) (.ref y)) Q E s := by
  have X := X₀.keeps Fr0.keep
  have one : wpAny (model prog w) A (tryCompare (.ref x) "__ne__" (.ref y)) (fun r s' => ∃ v, r = some v ∧ Q v s') E s := by
    unfold tryCompare
    refine wpAny_bind (ifBound_objNe X I hn (wpAny_call (codeAny_call_builtin F.cmp_object.ne.plain F.cmpEntry_ne (PySem.W.check_slot F.cmpKind_ne F.cmpSplit_ne (I.type.andThen (PySem.W.looks_mroIn X hm)) (F.cmpArgs_ne _ _) ?_))))
    refine objNe_entryK (A := A.in1) X I hs hf hu (wpAny_mono h (fun v s' hv => ?_) fun _ _ e => e)
    obtain ⟨b, rfl, hq⟩ := hv
    first | exact ⟨b, rfl, wpAny_pure ⟨_, rfl, hq⟩⟩ | exact ⟨b, rfl, ⟨_, rfl, hq⟩⟩ | exact ⟨b, rfl, wpAny_pure (wpAny_pure ⟨_, rfl, hq⟩)⟩
  show wpAny (model prog w) A (richCompare .NotEq (.ref x) (.ref y)) Q E s
  unfold richCompare
  simp only [oneThing_ref]
  refine wpAny_holding (wpAny_bind (wpAny_cRoomFor (Nat.lt_of_succ_lt hu) ?_))
  rw [cmpInfo_NotEq]
  dsimp only
  refine wpAny_bind (I.type.here (wpAny_bind (J.type.here ?_)))
  split
  · rename_i q
    simp at q
  · refine wpAny_bind (wpAny_pure ?_)
    simp only [Bool.false_eq_true, if_false]
    refine wpAny_bind (wpAny_mono one (fun r s' z => ?_) fun _ _ e => e)
    obtain ⟨v, rfl, hq⟩ := z
    exact wpAny_pure hq
end
open PySem L2
section
variable {R : RP} {C : XCl} {Γ : Gm} {B m ng : Nat} {EX : WX} {N : List Str} {sc : Scope} {fb : Str → Bool} {X : Cx} {F : FrD} {σ : St} {ρ ρ' ρ1 : Rho} {H H' H1 : Hp} {n n' n1 c nb : Nat}
variable {a b e1 e o : Expr} {es : List Expr} {p q r : E} {ps qs : Es} {pos : Pos} {Q : VK}
theorem op_neA {rp : Bool} {CX : CXT} {kk : Nat} {f Ca : Addr} {fd : FuncData} {pms : List Str} {sp : Sp} {E : XK} (hm : Meth X.K Ca "__eq__" f) (ob : PySem.W.mroIn X.K Ca (.type "object") = some true) (hn : PySem.W.findIn X.K (.ref Ca) "__ne__" = some (some (.builtin "object.__ne__")))
    (F : FnA rp X.prog X.w X.K X.mg X.base CX kk f fd pms sp) (gd : rp = true → X.A.guards = some []) (hr : Room (kk + 1) X.A) (hb : Binds X.K fd pms []) (hx : ∀ σ, PasA CX X σ E) :
    OpR X (compareOp .NotEq) (fun x y H Q => twoIns Ca H x y ∧ sp [x, y] H (fun v H' => ∃ b, v = .bl b ∧ Q (.bl (!b)) H') E) := by
  intro pins s σ H x y v u Q I rx ry ⟨⟨⟨a1, d1, f1, ex, h1⟩, ⟨a2, d2, f2, ey, h2⟩⟩, q⟩
  subst ex ey
  have q1 : v = Value.ref a1 := rx
  have q2 : u = Value.ref a2 := ry
  subst q1 q2
  obtain ⟨mm, fr⟩ := I.fr
  obtain ⟨_, O1, _⟩ := ins_get I.hok h1
  obtain ⟨_, O2, _⟩ := ins_get I.hok h2
  obtain ⟨_, J1, _⟩ := O1.look
  obtain ⟨_, J2, _⟩ := O2.look
  have room : X.A.units + 1 < cLine := by have := hr.un; omega
  have run := F.call1 gd hr hb (hx σ) I (vs := [.ref a1, .ref a2]) (us := [.ref a1, .ref a2]) (.cons (show RelV (.ref a1) (.ref a1) from rfl) (.cons (show RelV (.ref a2) (.ref a2) from rfl) .nil)) q
  refine ne_K room fr I.ok.mod.kin J1 J2 ob hn hm.at_ hm.fn (wpAny_mono run (fun z s' hz => ?_) fun _ _ z => z)
  obtain ⟨w, H', I', rw', b, rfl, hq⟩ := hz
  cases rw'
  exact ⟨b, rfl, .bl (!b), H', I', rfl, hq⟩
theorem spP_up {ar fc : Nat} {phi : List D → (D → Prop) → Xp → Prop} {vs : List V} {Q' : VK} {E : XK} (hm : ∀ ds Q Q' x, (∀ z, Q z → Q' z) → phi ds Q x → phi ds Q' x) (hq : ∀ v H, Q v H → Q' v H) : spP R C B ar fc phi vs H Q E → spP R C B ar fc phi vs H Q' E :=
  fun ⟨M, ds, n, x, a, b, c, d, e, f, g, h⟩ => ⟨M, ds, n, x, a, b, c, d, e, f, g, hm _ _ _ _ (fun z hz v H' n' le kk dk rp => hq _ _ (hz v H' n' le kk dk rp)) h⟩
/-- two instances, compared -/
theorem q_core {ne : Bool} {ci f : Nat} {rr : R2} {K : Bool → Rho → Prop} (k : Ctx R C Γ B m ng EX N sc fb X)
    (hrr : ∀ x y H Q, twoIns (R.cls ci) H x y → spP R C B (Γ.arity f) (Γ.fcost f) (Γ.phi f) [x, y] H (fun v H' => ∃ b, v = .bl b ∧ Q (.bl (xorB ne b)) H') (fun _ _ _ => False) → rr x y H Q) {k0 : Nat} {x : Xr}
    (P : Pre R C B EX F σ ρ H n k0 nb x) (hk : cE Γ p + cE Γ q + Γ.fcost f ≤ k0)
    (h : wE Γ x p ρ fun r ρ1 => wE Γ x q ρ1 fun s ρ2 => useAll ρ2 [r, s] fun ds => (∃ fs gs, ds = [.obj ci fs, .obj ci gs]) ∧ 2 = Γ.arity f ∧ Γ.phi f ds (fun z => ∃ k, z = .bl k ∧ K k (frz z.flat ρ2 [r, s])) noXp)
    (hQ : ∀ b ρ' H' n', K b ρ' → Stp R F σ ρ H n k0 ρ' H' n' → Q (.bl (xorB ne b)) H') : tOp rr (tE R C Γ B EX p) (tE R C Γ B EX q) σ H Q := by
  refine ⟨F, ρ, n, nb, x, P.dn (by omega), wE_mono p (xid x) (fun r ρ1 h v H1 n1 s1 r1 => ?_) h⟩
  refine ⟨F, ρ1, n1, nb, x, P.go s1 (by omega), wE_mono q (xid x) (fun rq ρ2 h u H2 n2 s2 r2 => ?_) h⟩
  have s12 := s1.trans s2
  obtain ⟨ds, rd, ⟨fs, gs, rfl⟩, hl, h⟩ := freeze_rep s12.rl [r, rq] (fun _ z => z) (show RvsOk R F ρ2 σ H2 [r, rq] [v, u] from ⟨r1.keep s2, r2, True.intro⟩) h
  refine hrr _ _ _ _ ?_ (sp_of (EX := fun _ _ _ _ => False) (x := noX) (Q2 := fun r ρ' => ∃ b, r = .pr (.bl b) ∧ K b ρ') ⟨P.rl, P.le, P.B, xok_none⟩ s12 hk rd hl (fun Q Q' hq => Γ.pmono f _ Q Q' _ _ hq (fun _ _ h => h)) (Γ.pmono f _ _ _ _ _ (fun z ⟨b, e, hz⟩ => ⟨b, by rw [e], hz⟩) (fun _ _ h => h) h) ?_)
  · cases rd with
    | cons r0 t =>
      cases t with
      | cons r1' _ =>
        obtain ⟨a1, d1, f1, rfl, _, h1, _, _⟩ := r0.invO
        obtain ⟨a2, d2, f2, rfl, _, h2, _, _⟩ := r1'.invO
        exact ⟨⟨a1, d1, f1, rfl, h1⟩, ⟨a2, d2, f2, rfl, h2⟩⟩
  · rintro r ρ' ⟨b, rfl, hK⟩ v H' n' st rv
    cases (show Rep R (MM F ρ' σ) H' v (.bl b) from rv)
    exact ⟨b, rfl, hQ b ρ' H' n' hK st⟩
def opQ (ne : Bool) : CmpOp := if ne = true then .NotEq else .Eq
theorem op_q {ne : Bool} {ci f : Nat} (k : Ctx R C Γ B m ng EX N sc fb X) (hf : f < m) (hk : Γ.fk f = .mth ci) (hc : ci < Γ.ncl) (hy : Γ.fname f = "__eq__") :
    ∃ rr : R2, OpR X (compareOp (opQ ne)) rr ∧ ∀ x y H Q, twoIns (R.cls ci) H x y → spP R C B (Γ.arity f) (Γ.fcost f) (Γ.phi f) [x, y] H (fun v H' => ∃ b, v = .bl b ∧ Q (.bl (xorB ne b)) H') (fun _ _ _ => False) → rr x y H Q := by
  have kf := k.fns f hf
  unfold FnD at kf
  rw [hk] at kf
  obtain ⟨ad, fd, pms, m0, lm, hm, hfi, hF, hpl, hb, _⟩ := kf
  rw [hy] at hm
  cases ne with
  | true => exact ⟨_, op_neA hm (k.cl ci hc).ob (k.cl ci hc).ne hF (fun _ => k.gd) (k.room.mono lm) hb pas0, fun x y H Q h1 h2 => ⟨h1, h2⟩⟩
  | false => exact ⟨_, op_eqA hm hF (fun _ => k.gd) (k.room.mono (by omega)) hb pas0, fun x y H Q h1 h2 => ⟨h1, spP_up (fun ds Q Q' x hq => Γ.pmono f ds Q Q' _ _ hq (fun _ _ h => h)) (fun v H' ⟨b, e, q⟩ => e ▸ q) h2⟩⟩
theorem s_q {ne : Bool} {ci f : Nat} (k : Ctx R C Γ B m ng EX N sc fb X) (hf : f < m) (hk : Γ.fk f = .mth ci) (hc : ci < Γ.ncl) (hy : Γ.fname f = "__eq__") (ha : PE X a (tE R C Γ B EX p)) (hb : PE X b (tE R C Γ B EX q)) (hmk : behindInMarks (opQ ne) b = false) :
    PE X (.Compare a [opQ ne] [b] pos) (tE R C Γ B EX (.appq ne ci f p q)) := by
  obtain ⟨rr, ho, hr⟩ := op_q (ne := ne) k hf hk hc hy
  refine imE (pe_cmpR ho ha hb hmk) fun σ H Q ⟨F, ρ, n, nb, x, P, h⟩ => ?_
  simp only [wE] at h
  simp only [cE] at P h
  exact q_core (K := fun b ρ' => ∀ v H' n', Stp R F σ ρ H n (cE Γ p + cE Γ q + Γ.fcost f) ρ' H' n' → RvOk R F ρ' σ H' (.pr (.bl (xorB ne b))) v → Q v H') k hr P (Nat.le_refl _) h fun b ρ' H' n' hK st => hK _ H' n' st (.bl _)
theorem t_q {ne : Bool} {ci f : Nat} (k : Ctx R C Γ B m ng EX N sc fb X) (hf : f < m) (hk : Γ.fk f = .mth ci) (hc : ci < Γ.ncl) (hy : Γ.fname f = "__eq__") (ha : PE X a (tE R C Γ B EX p)) (hb : PE X b (tE R C Γ B EX q)) (hmk : behindInMarks (opQ ne) b = false) :
    PT X (.Compare a [opQ ne] [b] pos) (tT R C Γ B EX (.appq ne ci f p q)) := by
  obtain ⟨rr, ho, hr⟩ := op_q (ne := ne) k hf hk hc hy
  refine imT (pt_cmpR ho ha hb hmk) fun σ H Q ⟨F, ρ, n, nb, x, P, h⟩ => ?_
  simp only [wT, wE] at h
  simp only [cE] at P h
  refine q_core (K := fun b ρ' => useR ρ' (.pr (.bl (xorB ne b))) fun d => ∃ c, d.truth = some c ∧ ∀ H' n', Stp R F σ ρ H n (cE Γ p + cE Γ q + Γ.fcost f) ρ' H' n' → Q c H') k hr P (Nat.le_refl _) h fun b ρ' H' n' hK st => ?_
  simp only [useR, D.truth] at hK
  obtain ⟨c, e, hK⟩ := hK
  cases e
  exact ⟨_, rfl, hK H' n' st⟩
end
end DL

set_option Elab.async false
set_option linter.all false
set_option maxRecDepth 100000
set_option maxHeartbeats 4000000
/-! len of an own class, == with any other thing, C(k = v, ..), list(range(n)). -/
namespace DL
section
open PySem PySem.Spec PyProof.Rows PySem.SeqAt PySem.Calls
variable {prog : Program} {w : World} {A : Around} {E : Value → Shared → Prop} {s : Shared} {K : PySem.W.Frag} {x C f : Addr} {ox : Obj} {od : Option Obj}
theorem special_K {M : Model} {name : Str} {args : List Value} {Q : Option Value → Shared → Prop} (X : K.In s.heap) (I : PySem.W.InstAt s.heap x ox C od) (hs : PySem.W.findIn K (.ref C) name = some (some (.ref f))) (hf : PySem.W.isFn K (.ref f) = true)
    (h : wpAny M A (call (.ref f) (.ref x :: args)) (fun v => Q (some v)) E s) : wpAny M A (callSpecial? (.ref x) name args) Q E s := by
  unfold callSpecial?
  refine wpAny_bind (wpAny_bind (I.type.here ((PySem.W.looks_findIn X hs).here ?_)))
  refine wpAny_holding (wpAny_bind ((PySem.W.bind_fn X _ (beq_iff_eq.mp hf)).here ?_))
  first
    | exact wpAny_bind (wpAny_mono h (fun v s' h' => wpAny_pure h') fun _ _ h' => h')
    | exact wpAny_pure (wpAny_bind (wpAny_mono h (fun v s' h' => wpAny_pure h') fun _ _ h' => h'))
theorem len_K {Q : Value → Shared → Prop} (X : K.In s.heap) (I : PySem.W.InstAt s.heap x ox C od) (hs : PySem.W.findIn K (.ref C) "__len__" = some (some (.ref f))) (hf : PySem.W.isFn K (.ref f) = true)
    (hcall : wpAny (model prog w) A.in1 (call (.ref f) [.ref x]) (fun r s' => ∃ n u, r = .int n u ∧ 0 ≤ n ∧ n < 2 ^ 63 ∧ Q (.int n s'.toks) { s' with toks := s'.toks + 1 }) E s) :
    wpAny (model prog w) A (call (.builtin "len") [.ref x]) Q E s := by
  refine Calls.call_function_entry kind_len plain_len entry_len (args_len1 _) ?_
  unfold Builtin.«len»
  refine wpAny_bind (m := oneArg "len" _) (wpAny_pure ?_)
  refine wpAny_bind (m := callSpecial? (.ref x) (Str.ofString "__len__")) (special_K X I hs hf (wpAny_mono hcall (fun r s' hr => ?_) fun _ _ y => y))
  obtain ⟨n, u, rfl, h0, h1, hq⟩ := hr
  refine wpAny_bind (wpAny_holding (wpAny_pure ?_))
  refine wpAny_bind (wpAny_letGo ?_)
  show wpAny _ _ (if n < 0 then _ else _) _ _ _
  rw [if_neg (by omega)]
  show wpAny _ _ (if n ≥ 2 ^ 63 then _ else _) _ _ _
  rw [if_neg (by omega)]
  exact wpAny_bind (wpAny_mkInt (wpAny_pure ⟨_, rfl, hq⟩))
end
open PySem L2
section
variable {R : RP} {C : XCl} {Γ : Gm} {B m ng : Nat} {EX : WX} {N : List Str} {sc : Scope} {fb : Str → Bool} {X : Cx} {F : FrD} {σ : St} {ρ ρ' ρ1 : Rho} {H H' H1 : Hp} {n n' n1 c nb : Nat}
variable {a b e1 e o : Expr} {es : List Expr} {p q r : E} {ps qs : Es} {pos : Pos} {Q : VK}
/-! len(o) -/
theorem call_lenA {rp : Bool} {CX : CXT} {kk : Nat} {f Ca : Addr} {fd : FuncData} {pms : List Str} {sp : Sp} {E : XK} (hm : Meth X.K Ca "__len__" f) (F : FnA rp X.prog X.w X.K X.mg X.base CX kk f fd pms sp) (gd : rp = true → X.A.guards = some []) (hr : Room (kk + 1) X.A) (hb : Binds X.K fd pms []) (hx : ∀ σ, PasA CX X σ E) :
    CallR X (.builtin "len") (fun xs H Q => ∃ ad dx fs, xs = [.ref ad] ∧ H ad = some (.ins Ca dx fs) ∧ sp [.ref ad] H (fun v H' => ∃ i, v = .int i ∧ (0 ≤ i ∧ i < 2 ^ 63) ∧ Q (.int i) H') E) := by
  intro pins s σ H xs us Q I r ⟨ad, dx, fs, e, ea, q⟩
  subst e
  obtain ⟨u, rfl, ru⟩ : ∃ u, us = [u] ∧ RelV (.ref ad) u := by
    cases r with
    | cons h t => cases t; exact ⟨_, rfl, h⟩
  obtain rfl : u = Value.ref ad := ru
  obtain ⟨_, O, _⟩ := ins_get I.hok ea
  obtain ⟨_, J, _⟩ := O.look
  have run := F.call1 gd hr hb (hx σ) I (vs := [.ref ad]) (us := [.ref ad]) (.cons (show RelV (.ref ad) (.ref ad) from rfl) .nil) q
  refine len_K I.kIn J hm.at_ hm.fn (wpAny_mono run (fun z s' hz => ?_) fun _ _ z => z)
  obtain ⟨w, H', I', rw', i, rfl, ⟨h0, h1⟩, hq⟩ := hz
  obtain ⟨t, rfl⟩ : ∃ t, z = Value.int i t := rw'
  exact ⟨i, t, rfl, h0, h1, .int i, H', I'.tok _, ⟨_, rfl⟩, hq⟩
theorem s_lenO {ci f : Nat} {p0 : Pos} (k : Ctx R C Γ B m ng EX N sc fb X) (hf : f < m) (hk : Γ.fk f = .mth ci) (hy : Γ.fname f = "__len__") (hg : Gl X "len") (ha : PE X e (tE R C Γ B EX p)) (hs : notSt e = true) :
    PE X (.Call (.Name "len" p0) [e] [] pos) (tE R C Γ B EX (.lenm ci f p)) := by
  have kf := k.fns f hf
  unfold FnD at kf
  rw [hk] at kf
  obtain ⟨ad, fd, pms, m0, lm, hm, hfi, hF, hpl, hb, _⟩ := kf
  rw [hy] at hm
  have pa : PA X [e] (tAs R C Γ B EX (.cons p .nil)) := s_as1 ha s_as0 (star_cons hs)
  refine imE (pe_callB (call_lenA hm hF (fun _ => k.gd) (k.room.mono (by omega)) hb pas0) hg (k.bl "len" (by decide)) (by rfl) pa (by decide) (by decide) (star_cons hs) (star_any (by rfl))) fun σ H Q ⟨F, ρ, n, nb, x, P, h⟩ => ?_
  simp only [wE] at h
  simp only [cE] at P h
  refine ⟨F, ρ, n, nb, x, P.dn (by simp only [cEs]; omega), ?_⟩
  simp only [wAs]
  refine wE_mono p (xid x) (fun r ρ1 h vs H1 n1 s1 r1 => ?_) h
  obtain ⟨ds, rr, ⟨fs, rfl⟩, hl, h⟩ := freeze_rep s1.rl [r] (fun _ z => z) r1 h
  cases rr with
  | cons r0 t =>
    cases t
    obtain ⟨a', dx, fvs, rfl, na, hh, hf', ra⟩ := r0.invO
    refine ⟨a', dx, fvs, rfl, hh, ?_⟩
    refine sp_of (EX := fun _ _ _ _ => False) (x := noX) (Q2 := fun z ρ' => ∃ i, z = .pr (.int i) ∧ (0 ≤ i ∧ i < 2 ^ 63) ∧ ∀ v H' n', Stp R F σ ρ H n _ ρ' H' n' → RvOk R F ρ' σ H' (.pr (.int i)) v → Q v H') ⟨P.rl, P.le, P.B, xok_none⟩ s1 (Nat.le_refl _) (.cons (.obj na hh hf' ra) .nil) hl (fun Q Q' hq => Γ.pmono f _ Q Q' _ _ hq (fun _ _ h => h)) (Γ.pmono f _ _ _ _ _ (fun z ⟨i, e, e2, hz⟩ => ⟨i, by rw [e], e2, hz⟩) (fun _ _ h => h) h) fun r ρ' ⟨i, e, e2, hq⟩ v H' n' st rv => ?_
    subst e
    cases (show Rep R _ H' v (.int i) from rv)
    exact ⟨i, rfl, e2, hq _ H' n' st rv⟩
/-! o == y, y of another type -/
theorem ty_D {c : Nat} {M : Addr → Prop} {v : V} {d : D} (hK : R.K = X.K) (h : Rep R M H v d) (e : dIsc c d = some false) : ∃ T, T ∈ clTys ∧ TyX X.K H v (.type T) := by
  replace h : Rdb R M H v d := .inl h
  cases d with
  | non => cases h.non; exact ⟨_, by decide, .base .non⟩
  | bl c => cases h.bl; exact ⟨_, by decide, .base (.bl _)⟩
  | int c => cases h.int; exact ⟨_, by decide, .base (.int _)⟩
  | str c => obtain ⟨rfl, _⟩ := h.str; exact ⟨_, by decide, .base (.str _)⟩
  | lst xs => obtain ⟨a, ys, rfl, h1, _⟩ := h.lst; exact ⟨_, by decide, .base (.lst h1)⟩
  | tup xs =>
    obtain ⟨a, ys, rfl, h1, _⟩ := h.tup
    rcases h1 with h1 | ⟨o, its, n, l1, l2, _⟩
    · exact ⟨_, by decide, .base (.tup h1.2)⟩
    · exact ⟨_, by decide, .kTuple (hK ▸ l1) l2⟩
  | dct ks vs =>
    rcases h with h | ⟨a, rfl, h⟩
    · cases h with
      | dct n h => exact ⟨_, by decide, .base (.dK h)⟩
    · cases h with
      | dct h => exact ⟨_, by decide, .base (.dK h)⟩
  | obj c' fs =>
    simp only [dIsc] at e
    split at e <;> cases e
  | atom i => cases e
theorem sub_T {K : PySem.W.Frag} {T : String} {a : Addr} (h : T ∈ clTys) : PySem.W.subIn K (.type T) (.ref a) = some false := by
  simp only [clTys, List.mem_cons, List.not_mem_nil, or_false] at h
  rcases h with rfl | rfl | rfl | rfl | rfl | rfl | rfl <;> rfl
theorem op_eqT {rp : Bool} {CX : CXT} {kk : Nat} {f Ca : Addr} {fd : FuncData} {pms : List Str} {sp : Sp} {E : XK} (hm : Meth X.K Ca "__eq__" f) (F : FnA rp X.prog X.w X.K X.mg X.base CX kk f fd pms sp) (gd : rp = true → X.A.guards = some []) (hr : Room kk X.A) (hb : Binds X.K fd pms []) (hx : ∀ σ, PasA CX X σ E) :
    OpR X (compareOp .Eq) (fun x y H Q => (∃ a dx fs, x = .ref a ∧ H a = some (.ins Ca dx fs)) ∧ (∃ T, T ∈ clTys ∧ TyX X.K H y (.type T)) ∧ sp [x, y] H Q E) := by
  intro pins s σ H x y v u Q I rx ry ⟨⟨a1, d1, f1, ex, h1⟩, ⟨T, hT, ty⟩, q⟩
  subst ex
  have q1 : v = Value.ref a1 := rx
  subst q1
  obtain ⟨mm, fr⟩ := I.fr
  obtain ⟨_, O1, _⟩ := ins_get I.hok h1
  obtain ⟨_, J1, _⟩ := O1.look
  have room : X.A.units < cLine := by have := hr.un; omega
  have nf : PySem.W.notFirst X.K Ca (.type T) = true := by unfold PySem.W.notFirst; rw [sub_T hT]; simp
  obtain ⟨P, kt, hp, _⟩ := kit_of I ry ty
  have run := F.call gd hr hb (hx σ) I (vs := [.ref a1, y]) (us := [.ref a1, u]) (.cons (show RelV (.ref a1) (.ref a1) from rfl) (.cons ry .nil)) q
  have fin := PySem.W.cmp_K (op := .Eq) room fr I.ok.mod.kin J1 (kt.ty _ _ I.kIn hp) nf hm.at_ hm.fn (wpAny_mono run (fun z s' hz => by
    obtain ⟨w, H', I', rw', hq⟩ := hz
    exact back_of (Q := EP X pins σ Q) rw' ⟨w, H', I', rw', hq⟩) fun _ _ z => z)
  exact fin
theorem s_eqT {ci f : Nat} (k : Ctx R C Γ B m ng EX N sc fb X) (hf : f < m) (hk : Γ.fk f = .mth ci) (hy : Γ.fname f = "__eq__") (ha : PE X a (tE R C Γ B EX p)) (hb : PE X b (tE R C Γ B EX q)) (hmk : behindInMarks .Eq b = false) :
    PE X (.Compare a [.Eq] [b] pos) (tE R C Γ B EX (.appe ci f p q)) := by
  have kf := k.fns f hf
  unfold FnD at kf
  rw [hk] at kf
  obtain ⟨ad, fd, pms, m0, lm, hm, hfi, hF, hpl, hbd, _⟩ := kf
  rw [hy] at hm
  refine imE (pe_cmpR (op_eqT hm hF (fun _ => k.gd) (k.room.mono (by omega)) hbd pas0) ha hb hmk) fun σ H Q ⟨F, ρ, n, nb, x, P, h⟩ => ?_
  simp only [wE] at h
  simp only [cE] at P h
  refine ⟨F, ρ, n, nb, x, P.dn (by omega), wE_mono p (xid x) (fun r ρ1 h v H1 n1 s1 r1 => ?_) h⟩
  refine ⟨F, ρ1, n1, nb, x, P.go s1 (by omega), wE_mono q (xid x) (fun rq ρ2 h u H2 n2 s2 r2 => ?_) h⟩
  have s12 := s1.trans s2
  obtain ⟨ds, rr, ⟨fs, y, rfl, hd⟩, hl, h⟩ := freeze_rep s12.rl [r, rq] (fun _ z => z) (show RvsOk R F ρ2 σ H2 [r, rq] [v, u] from ⟨r1.keep s2, r2, True.intro⟩) h
  cases rr with
  | cons r0 t =>
    cases t with
    | cons ry t =>
      cases t
      obtain ⟨a', dx, fvs, rfl, na, hh, hf', ra⟩ := r0.invO
      refine ⟨⟨a', dx, fvs, rfl, hh⟩, ty_D k.eK ry hd, ?_⟩
      refine sp_of (EX := fun _ _ _ _ => False) (x := noX) (Q2 := fun z ρ' => ∃ b, z = .pr (.bl b) ∧ ∀ v H' n', Stp R F σ ρ H n _ ρ' H' n' → RvOk R F ρ' σ H' (.pr (.bl b)) v → Q v H') ⟨P.rl, P.le, P.B, xok_none⟩ s12 (by omega) (.cons (.obj na hh hf' ra) (.cons ry .nil)) hl (fun Q Q' hq => Γ.pmono f _ Q Q' _ _ hq (fun _ _ h => h)) (Γ.pmono f _ _ _ _ _ (fun z ⟨b, e, hz⟩ => ⟨b, by rw [e], hz⟩) (fun _ _ h => h) h) fun r ρ' ⟨b, e, hq⟩ v H' n' st rv => ?_
      subst e
      exact hq v H' n' st rv
/-! C(k = v, ..) -/
theorem run_makeKA {CX : CXT} {kk n0 : Nat} {f Ca : Addr} {fd : FuncData} {pms ks : List Str} {sp : Sp} {E : XK} {pins : List (Addr × Obj)} {σ : St} {H : Hp} {s : Shared} {Q : VK} {us ws : List Value} {vs zs : List V} {g : List Value → List Value → List Value} {gV : List V → List V → List V} (M : Mk X.K Ca f) (F : FnA true X.prog X.w X.K X.mg X.base CX kk f fd pms sp) (gd : X.A.guards = some []) (hr : Room (kk + 1) X.A) (hb : KBn X.K fd pms (n0 + 1) ks g gV)
    (hx : PasA CX X σ E) (I : Inv X pins σ H s) (r : Vals vs us) (rz : Vals zs ws) (l1 : vs.length = n0) (l2 : zs.length = ks.length)
    (h : ∀ x dx, H x = none → H dx = none → dx ≠ x → sp (gV (.ref x :: vs) zs) (upd (upd H dx (.own x)) x (.ins Ca dx [])) (fun v H2 => v = .non ∧ Q (.ref x) H2) E) :
    wpAny (model X.prog X.w) X.A (PySem.call (.ref Ca) us (ks.zip ws)) (EP X pins σ Q) X.xe s := by
  have hq := h (s.heap.objs.size + 1) s.heap.objs.size (I.hok.fresh (Nat.le_succ _)) (I.hok.fresh (Nat.le_refl _)) (Nat.ne_of_lt (Nat.lt_succ_self _))
  have I2 := Inv.made (C := Ca) I
  have r1 : Vals (V.ref (s.heap.objs.size + 1) :: vs) (Value.ref (s.heap.objs.size + 1) :: us) := .cons rfl r
  have r2 := hb.rel r1 rz
  have n1 : (Value.ref (s.heap.objs.size + 1) :: us).length = n0 + 1 := by rw [List.length_cons, ← r.length, l1]
  refine wpAny_call (make_map (f := f) I.kIn M.makes M.init (beq_iff_eq.mp M.fn) (codeAny_mono (F.run _ X.stack _ _ ⟨Value.ref (s.heap.objs.size + 1) :: us, ks.zip ws⟩ (g (Value.ref (s.heap.objs.size + 1) :: us) ws) _ _ E (fun _ => make_gd gd) (hr.make Ca us (ks.zip ws))
    (I2.env0.make Ca us (ks.zip ws)) (hb.to _ (Value.ref (s.heap.objs.size + 1) :: us) ws I2.kIn n1 (rz.length.symm.trans l2)) r2 hq) fun r s' hq' => ?_))
  cases r with
  | error e => exact hx pins _ _ e s' I2 hq'
  | ok fl =>
    cases fl with
    | ret u =>
      obtain ⟨v, H', I3, rv, ev, q3⟩ := I2.after hq'
      subst ev
      exact ⟨rv, ⟨V.ref (s.heap.objs.size + 1), H', I3, rfl, q3⟩⟩
    | next => exact False.elim hq'
    | brk => exact False.elim hq'
    | cont => exact False.elim hq'
theorem pe_makeKA0 {E : St → XK} {CX : CXT} {kk : Nat} {f Ca : Addr} {fd : FuncData} {pms ks : List Str} {sp : Sp} {y : Str} {p0 : Pos} {tk : TA} {kws : List Keyword} {g : List Value → List Value → List Value} {gV : List V → List V → List V} (M : Mk X.K Ca f) (F : FnA true X.prog X.w X.K X.mg X.base CX kk f fd pms sp) (gd : X.A.guards = some []) (hr : Room (kk + 1) X.A) (hg : Gl X y) (hm : X.mg y = some (.ref Ca)) (hb : KBn X.K fd pms 1 ks g gV) (hx : ∀ σ, PasA CX X σ (E σ))
    (hkw : PK X kws tk) (hall : (kws.all fun k => (kwName k).isSome) = true) (hks : kws.filterMap kwName = ks) (hdb : (y == ("__debug__" : Str)) = false) :
    PE X (.Call (.Name y p0) [] kws pos) (fun σ H Q => tk σ H fun zs H1 => zs.length = ks.length ∧ ∀ x dx, H1 x = none → H1 dx = none → dx ≠ x → sp (gV [.ref x] zs) (upd (upd H1 dx (.own x)) x (.ins Ca dx [])) (fun v H2 => v = .non ∧ Q (.ref x) H2) (E σ)) := by
  refine ⟨fun pins s σ H Q I h => ?_⟩
  refine wpAny_Call_Name_kw (ld_glob I hg hm ?_ hdb)
  refine PySem.W.callWith_KW0 (h₀ := X.base) I.ok.mod.kin M.kp (kw_all hall) ?_ (by rw [kw_any hall]; rfl)
  refine thn (hkw.run pos pins s σ H _ I h) fun ws s2 ⟨zs, H2, I2, rz, l2, q2⟩ => ⟨I2.kIn, ?_⟩
  rw [kw_map, hks]
  exact run_makeKA (us := []) (vs := []) M F gd hr hb (hx σ) I2 .nil rz rfl l2 q2
theorem s_newK {ci j : Nat} {y : Str} {p0 : Pos} {kws : List Keyword} (k : Ctx R C Γ B m ng EX N sc fb X) (hf : (Γ.ks j).f < m) (hk : Γ.fk (Γ.ks j).f = .new ci) (hpl : (Γ.ks j).perm.length = Γ.arity (Γ.ks j).f) (hy : Γ.fname (Γ.ks j).f = y) (hnp : (Γ.ks j).np = 0) (hg : Gl X y) (hdb : (y == ("__debug__" : Str)) = false)
    (hkw : PK X kws (tAs R C Γ B EX ps)) (hall : (kws.all fun k => (kwName k).isSome) = true) (hks : kws.filterMap kwName = (Γ.ks j).ks) :
    PE X (.Call (.Name y p0) [] kws pos) (tE R C Γ B EX (.newk ci j ps)) := by
  have kf := k.fns _ hf
  unfold FnD at kf
  rw [hk] at kf
  obtain ⟨ad, fd, pms, m0, lm, hm, hM, hF, hpl', hbd, hk2⟩ := kf
  obtain ⟨g, gV, dvs, hb, hd, hi, hV⟩ := hk2 j rfl
  subst hy
  rw [hnp] at hb
  refine imE (pe_makeKA0 hM hF k.gd (k.room.mono lm) hg hm hb k.pas hkw hall hks hdb) fun σ H Q ⟨F, ρ, n, nb, x, P, h⟩ => ?_
  simp only [wE] at h
  simp only [cE] at P h
  refine ⟨F, ρ, n, nb, x, P.dn (Nat.le_add_right _ _), wAs_mono ps (xid x) (fun rs ρ1 h vs H1 n1 s1 r1 => ?_) h⟩
  obtain ⟨_, l2, h⟩ := h
  have m2 : vs.length = (Γ.ks j).ks.length := by rw [← l2, r1.length]
  refine ⟨m2, ?_⟩
  obtain ⟨ds, rr, h⟩ := freeze_rep s1.rl rs (fun _ z => z) r1 h
  intro xa dx hxa hdx ne
  have ld : ds.length = (Γ.ks j).ks.length := by rw [← rr.length, m2]
  rw [hV (.ref xa) [] vs (by rw [hnp]; rfl) m2]
  have rp : RepAll R (MM F (freezeAll ρ1 rs) σ) H1 ((Γ.ks j).perm.map fun i => ([] ++ vs ++ dvs).getD i .non) ((Γ.ks j).put ds) := perm_rep (vs := [] ++ vs ++ dvs) (ds := ds ++ (Γ.ks j).dfl) (rr.append (hd _ _)) fun i hm => by rw [List.length_append, ld]; have := hi i hm; omega
  have hl : ((Γ.ks j).put ds).length = Γ.arity (Γ.ks j).f := by unfold KS.put; rw [List.length_map, hpl]
  have fz := freeze_stp (R := R) (F := F) (σ := σ) (H := H1) (n := n1) rs s1.rl
  have sm : Same H1 (upd (upd H1 dx (.own xa)) xa (.ins (R.cls ci) dx [])) := fun a o e => by
    rw [upd_ne (ne_of_none e hxa), upd_ne (ne_of_none e hdx)]; exact e
  refine ⟨MM F (freezeAll ρ1 rs) σ, (Γ.ks j).put ds, n1, xat x ρ1 rs, xa, dx, _, rfl, upd_same, fz.rl.fresh hxa, fun a z => ?_, ⟨fz.rl.mdd, fz.rl.mdl⟩, s1.rl.dk.same sm, ?_, hl, (rp.bar hxa).keep (fun _ z => z) (.of_same sm), ?_, Γ.pmono _ _ _ _ _ _ (fun z hz => ?_) (fun _ _ h => h) h⟩
  · obtain ⟨o, q⟩ := fz.rl.there z
    exact ⟨o, sm a o q⟩
  · have := P.le; have := P.B; have := s1.le; omega
  · intro c l cls d H' n' hx le kk dk xr
    refine P.xo c l cls d σ _ H' n' hx ?_ (fz.rl.go ((ExtK.of_same sm).trans kk) dk) xr
    have := P.le; have := s1.le; omega
  · intro H' n' le kk dk rep
    refine ⟨rfl, ?_⟩
    have kk' : ExtK R H1 H' := fun a o n1 n2 e => kk a o n1 n2 (ne_of_none e hxa) (sm a o e)
    have hfl : z.flat = false := by
      clear hz h
      generalize hv : V.ref xa = v0 at rep
      cases z <;> first | rfl | (cases rep; cases hv)
    have hz : _ := hz
    unfold frz at hz
    rw [hfl, if_neg Bool.false_ne_true] at hz
    have s2 := s1.trans fz
    exact hz _ H' n' ⟨s2.rl.go kk' dk, by have := s2.le; omega, s2.sub, s2.ext.trans (s2.rl.extM kk') s2.sub⟩ rep
/-! list(range(n)) -/
theorem s_lstR {p1 p2 pos2 : Pos} (k : Ctx R C Γ B m ng EX N sc fb X) (h1 : Gl X "list") (h2 : Gl X "range") (ha : PE X a (tE R C Γ B EX p)) (hs : notSt a = true) : PE X (.Call (.Name "list" p1) [.Call (.Name "range" p2) [a] [] pos2] [] pos) (tE R C Γ B EX (.lstR p)) :=
  imE (pe_listRg k.calm h1 (k.bl "list" (by decide)) (prg_1 h2 (k.bl "range" (by decide)) ha (star_cons hs)) (by rfl)) fun σ H Q ⟨F, ρ, n, nb, x, P, h⟩ => by
  simp only [wE] at h
  refine s_one P (by simp only [cE]; omega) h fun r ρ1 v H1 n1 h s1 r1 => ?_
  obtain ⟨d, r1, j, rfl, ⟨j0, j1⟩, h⟩ := r1.use s1.rl h
  cases r1.int
  refine ⟨j, rfl, .of_le (Int.le_refl 0) j1 (by decide) j0, fun q hq => ?_⟩
  exact (s1.out h).lst s1.rl.fm (rg_rep j) (by rw [rgV_length]; show _ ≤ 2 ^ 24; omega) q hq
end
end DL

set_option Elab.async false
set_option linter.all false
set_option maxRecDepth 100000
set_option maxHeartbeats 4000000
/-! zip of two things out of lists, tuples, texts (after HandS.Zip0 and PyProof.ZipIter, the two sources of any of these kinds) -/
namespace DZ
open PySem
open PySem.Sem (wp)
inductive ZK where
  | lst (a : Addr) | tup (a : Addr) | str (x : Str) (t : Tok)
namespace ZK
def val : ZK → Value
  | .lst a | .tup a => .ref a
  | .str x t => .str x t
def ty : ZK → String
  | .lst _ => "list_iterator"
  | .tup _ => "tuple_iterator"
  | .str x _ => if x.cps.all (· < 128) then "str_ascii_iterator" else "str_iterator"
def At (k : ZK) (h : Heap) (it : Addr) (i : Nat) : Prop := ∃ o, h.get? it = some o ∧ o.cls = .type k.ty ∧ o.data = .fields #[k.val, .int i 0]
def Src (k : ZK) (h : Heap) (xs : Array Value) : Prop := match k with
  | .lst a => h.IsList a xs
  | .tup a => h.IsTuple a xs
  | .str _ _ => True
def Off (k : ZK) (b : Addr) : Prop := match k with
  | .lst a | .tup a => a ≠ b
  | .str _ _ => True
def Is (k : ZK) (xs : Array Value) (i : Nat) (v : Value) : Prop := match k with
  | .lst _ | .tup _ => xs[i]? = some v
  | .str x _ => ∃ c u, x.cps[i]? = some c ∧ v = .str ⟨#[c]⟩ u
def Has (k : ZK) (xs : Array Value) (i : Nat) : Prop := match k with
  | .lst _ | .tup _ => i < xs.size
  | .str x _ => i < x.cps.size
end ZK
theorem ty_str (x : Str) (t : Tok) : (ZK.str x t).ty = (if x.cps.all (· < 128) then "str_ascii_iterator" else "str_iterator") := rfl
theorem ZK.At.ext {k : ZK} {h h' : Heap} {it b : Addr} {i : Nat} (y : k.At h it i) (hs : Heap.ExtBut b h h') (hab : it ≠ b) : k.At h' it i := let ⟨o, ho, r⟩ := y; ⟨o, hs it o hab ho, r⟩
theorem ZK.At.at {k : ZK} {h h' : Heap} {it : Addr} {i : Nat} (y : k.At h it i) (hs : ∀ o, h.get? it = some o → h'.get? it = some o) : k.At h' it i := let ⟨o, ho, r⟩ := y; ⟨o, hs o ho, r⟩
theorem ZK.Src.ext {k : ZK} {h h' : Heap} {b : Addr} {xs : Array Value} (y : k.Src h xs) (hs : Heap.ExtBut b h h') (hab : k.Off b) : k.Src h' xs := by
  cases k with
  | lst a => exact Heap.IsList.extBut (show h.IsList a xs from y) hs hab
  | tup a => exact Heap.IsTuple.extBut (show h.IsTuple a xs from y) hs hab
  | str x t => trivial
section
variable {prog : Program} {w : World} {A : Around} {E : Value → Shared → Prop} {s : Shared}
theorem next_item {k : ZK} {it : Addr} {i : Nat} {xs : Array Value} {Q : Value → Shared → Prop} (hit : k.At s.heap it i) (hl : k.Src s.heap xs) (hx : k.Has xs i)
    (hQ : ∀ v h' tk, k.Is xs i v → k.At h' it (i + 1) → Heap.SameBut it s.heap h' → Q v { s with heap := h', toks := tk }) : wpAny (model prog w) A (Builtin.SmallTypes.nextOf (.ref it)) Q E s := by
  cases k with
  | lst a =>
    have hx : i < xs.size := hx
    exact wpAny_nextOf_list_item (show s.heap.IsListIter it a i from hit) hl (Array.getElem?_eq_getElem hx) fun h' h1 h2 => hQ _ h' s.toks (Array.getElem?_eq_getElem hx) h1 h2
  | tup a =>
    have hx : i < xs.size := hx
    exact RZ.nextOf_tuple_item (show s.heap.IsTupleIter it a i from hit) hl (Array.getElem?_eq_getElem hx) fun h' h1 h2 => hQ _ h' s.toks (Array.getElem?_eq_getElem hx) h1 h2
  | str x t =>
    have hx : i < x.cps.size := hx
    obtain ⟨o, ho, hc, hd⟩ := id hit
    have hit' : s.heap.IsStrIter it (ZK.ty (.str x t)) x t i := hit
    cases hty : x.cps.all (· < 128) with
    | true =>
      have e : ZK.ty (.str x t) = "str_ascii_iterator" := by rw [ty_str, hty]; rfl
      rw [e] at hit' hc
      unfold Builtin.SmallTypes.nextOf
      refine wpAny_bind (wpAny_callSpecial?_slot (name := Str.ofString "__next__") hit'.typeIs PySem.F.slot_str_ascii_iterator_next
        (wpAny_call_entry PySem.F.slot_str_ascii_iterator_next hit'.typeIs PySem.F.entry_str_ascii_iterator_next ?_ (PySem.F.args_str_ascii_iterator_next_1 _)))
      show wpAny _ _ (field (.ref it) 0 >>= _) _ _ s
      refine wpAny_bind (wpAny_field ho hd (x := .str x t) rfl ?_)
      show wpAny _ _ (field (.ref it) 1 >>= _) _ _ s
      refine wpAny_bind (wpAny_field ho hd (x := .int i 0) rfl ?_)
      simp only [Int.toNat_natCast, Array.getElem?_eq_getElem hx]
      refine wpAny_bind (wpAny_setField ho hd (by simp) (wpAny_bind (wpAny_mkStr (wpAny_pure ⟨_, rfl, wpAny_pure (hQ _ _ _ ⟨_, _, Array.getElem?_eq_getElem hx, rfl⟩ ?_ (Heap.SameBut.update ..))⟩) (by show 1 ≤ sizeLine; decide))))
      exact ⟨_, Heap.get?_update_self _ ho (Obj.isFreed_of_fields (Obj.data_mapFields hd _)), (Obj.cls_mapFields ..).trans (hc.trans (congrArg Value.type e.symm)), by
        rw [Obj.data_mapFields hd]; simp [rawInt, ZK.val]⟩
    | false =>
      have e : ZK.ty (.str x t) = "str_iterator" := by rw [ty_str, hty]; rfl
      rw [e] at hit' hc
      unfold Builtin.SmallTypes.nextOf
      refine wpAny_bind (wpAny_callSpecial?_slot (name := Str.ofString "__next__") hit'.typeIs PySem.F.slot_str_iterator_next
        (wpAny_call_entry PySem.F.slot_str_iterator_next hit'.typeIs PySem.F.entry_str_iterator_next ?_ (PySem.F.args_str_iterator_next_1 _)))
      show wpAny _ _ (field (.ref it) 0 >>= _) _ _ s
      refine wpAny_bind (wpAny_field ho hd (x := .str x t) rfl ?_)
      show wpAny _ _ (field (.ref it) 1 >>= _) _ _ s
      refine wpAny_bind (wpAny_field ho hd (x := .int i 0) rfl ?_)
      simp only [Int.toNat_natCast, Array.getElem?_eq_getElem hx]
      refine wpAny_bind (wpAny_setField ho hd (by simp) (wpAny_bind (wpAny_mkStr (wpAny_pure ⟨_, rfl, wpAny_pure (hQ _ _ _ ⟨_, _, Array.getElem?_eq_getElem hx, rfl⟩ ?_ (Heap.SameBut.update ..))⟩) (by show 1 ≤ sizeLine; decide))))
      exact ⟨_, Heap.get?_update_self _ ho (Obj.isFreed_of_fields (Obj.data_mapFields hd _)), (Obj.cls_mapFields ..).trans (hc.trans (congrArg Value.type e.symm)), by
        rw [Obj.data_mapFields hd]; simp [rawInt, ZK.val]⟩
theorem next_end {k : ZK} {it : Addr} {i : Nat} {xs : Array Value} {Q : Value → Shared → Prop} (hh : A.handled = none) (hit : k.At s.heap it i) (hl : k.Src s.heap xs) (hx : ¬ k.Has xs i)
    (hE : ∀ h' e, Heap.ExtBut it s.heap h' → (∃ o, h'.get? e = some o ∧ o.cls = .type "StopIteration") → E (.ref e) { s with heap := h' }) : wpAny (model prog w) A (Builtin.SmallTypes.nextOf (.ref it)) Q E s := by
  cases k with
  | lst a =>
    have hx : ¬ i < xs.size := hx
    exact wpAny_nextOf_list_end hh (show s.heap.IsListIter it a i from hit) hl (Array.getElem?_eq_none (by omega)) hE
  | tup a =>
    have hx : ¬ i < xs.size := hx
    exact RZ.nextOf_tuple_end hh (show s.heap.IsTupleIter it a i from hit) hl (Array.getElem?_eq_none (by omega)) hE
  | str x t =>
    have hx : ¬ i < x.cps.size := hx
    have hx : x.cps[i]? = none := Array.getElem?_eq_none (by omega)
    obtain ⟨o, ho, hc, hd⟩ := id hit
    have hit' : s.heap.IsStrIter it (ZK.ty (.str x t)) x t i := hit
    cases hty : x.cps.all (· < 128) with
    | true =>
      have e : ZK.ty (.str x t) = "str_ascii_iterator" := by rw [ty_str, hty]; rfl
      rw [e] at hit' hc
      unfold Builtin.SmallTypes.nextOf
      refine wpAny_bind (wpAny_callSpecial?_slot (name := Str.ofString "__next__") hit'.typeIs PySem.F.slot_str_ascii_iterator_next
        (wpAny_call_entry PySem.F.slot_str_ascii_iterator_next hit'.typeIs PySem.F.entry_str_ascii_iterator_next ?_ (PySem.F.args_str_ascii_iterator_next_1 _)))
      show wpAny _ _ (field (.ref it) 0 >>= _) _ _ s
      refine wpAny_bind (wpAny_field ho hd (x := .str x t) rfl ?_)
      show wpAny _ _ (field (.ref it) 1 >>= _) _ _ s
      refine wpAny_bind (wpAny_field ho hd (x := .int i 0) rfl ?_)
      simp only [Int.toNat_natCast, hx]
      refine wpAny_bind (wpAny_rule (wpAny_bind (wpAny_setField ho hd (by simp) (wpAny_bind (wpAny_letGo ?_)))))
      show wpAny _ _ (newExc (.type "StopIteration") [] >>= _) _ _ _
      refine wpAny_bind ?_
      simp only [newExc, newTuple]
      refine wpAny_bind (wpAny_newObj_type ?_ (by size_fits))
      refine wpAny_bind (m := firstArgMember _ _) (wpAny_of_eq (a := Value.none) (by first | rfl | (simp only [firstArgMember]; rfl)) ?_)
      refine wpAny_newObj_type ?_ (by size_fits)
      simp only [raiseNew]
      refine wpAny_bind (wpAny_handled ?_)
      first | rw [show A.in1.handled = none from hh] | rw [hh]
      refine wpAny_bind (wpAny_pure (wpAny_throw ?_))
      exact hE _ _ (((Heap.SameBut.update ..).extBut.push _).push _) ⟨_, Heap.get?_push_size _ rfl, rfl⟩
    | false =>
      have e : ZK.ty (.str x t) = "str_iterator" := by rw [ty_str, hty]; rfl
      rw [e] at hit' hc
      unfold Builtin.SmallTypes.nextOf
      refine wpAny_bind (wpAny_callSpecial?_slot (name := Str.ofString "__next__") hit'.typeIs PySem.F.slot_str_iterator_next
        (wpAny_call_entry PySem.F.slot_str_iterator_next hit'.typeIs PySem.F.entry_str_iterator_next ?_ (PySem.F.args_str_iterator_next_1 _)))
      show wpAny _ _ (field (.ref it) 0 >>= _) _ _ s
      refine wpAny_bind (wpAny_field ho hd (x := .str x t) rfl ?_)
      show wpAny _ _ (field (.ref it) 1 >>= _) _ _ s
      refine wpAny_bind (wpAny_field ho hd (x := .int i 0) rfl ?_)
      simp only [Int.toNat_natCast, hx]
      refine wpAny_bind (wpAny_rule (wpAny_bind (wpAny_setField ho hd (by simp) (wpAny_bind (wpAny_letGo ?_)))))
      show wpAny _ _ (newExc (.type "StopIteration") [] >>= _) _ _ _
      refine wpAny_bind ?_
      simp only [newExc, newTuple]
      refine wpAny_bind (wpAny_newObj_type ?_ (by size_fits))
      refine wpAny_bind (m := firstArgMember _ _) (wpAny_of_eq (a := Value.none) (by first | rfl | (simp only [firstArgMember]; rfl)) ?_)
      refine wpAny_newObj_type ?_ (by size_fits)
      simp only [raiseNew]
      refine wpAny_bind (wpAny_handled ?_)
      first | rw [show A.in1.handled = none from hh] | rw [hh]
      refine wpAny_bind (wpAny_pure (wpAny_throw ?_))
      exact hE _ _ (((Heap.SameBut.update ..).extBut.push _).push _) ⟨_, Heap.get?_push_size _ rfl, rfl⟩
theorem iter_new {k : ZK} {xs : Array Value} {Q : Value → Shared → Prop} (hl : k.Src s.heap xs) (hQ : Q (.ref s.heap.objs.size) { s with heap := s.heap.push { cls := .type k.ty, data := .fields #[k.val, .int 0 0] } }) : wpAny (model prog w) A (pyIter k.val) Q E s := by
  cases k with
  | lst a => exact wpAny_pyIter_list (show s.heap.IsList a xs from hl) hQ
  | tup a => exact wpAny_pyIter_tuple (show s.heap.IsTuple a xs from hl) hQ
  | str x t =>
    rw [ty_str] at hQ
    cases hty : x.cps.all (· < 128) with
    | true => rw [hty] at hQ; exact wpAny_pyIter_ascii hty hQ
    | false => rw [hty] at hQ; exact wpAny_pyIter_wide hty hQ

structure Apart (z TI TO i1 i2 : Addr) : Prop where
  TIz : TI ≠ z
  TOz : TO ≠ z
  i1z : i1 ≠ z
  i2z : i2 ≠ z
  TITO : TI ≠ TO
  TIi1 : TI ≠ i1
  TIi2 : TI ≠ i2
  TOi1 : TO ≠ i1
  TOi2 : TO ≠ i2
  i12 : i1 ≠ i2
def OffAll (k : ZK) (z TO i1 i2 : Addr) : Prop := k.Off z ∧ k.Off TO ∧ k.Off i1 ∧ k.Off i2
theorem zip_item {z TI TO i1 i2 : Addr} {k1 k2 : ZK} {n : Nat} {xs ys : Array Value} {a b : Value} {Q : Value → Shared → Prop} (D : Apart z TI TO i1 i2) (O1 : OffAll k1 z TO i1 i2) (O2 : OffAll k2 z TO i1 i2)
    (hz : IsZip s.heap z TI TO .none) (hTI : IsPair s.heap TI (.ref i1) (.ref i2)) (hTO : IsPair s.heap TO a b)
    (h1 : k1.At s.heap i1 n) (h2 : k2.At s.heap i2 n) (hl1 : k1.Src s.heap xs) (hl2 : k2.Src s.heap ys) (hx : k1.Has xs n) (hy : k2.Has ys n)
    (hQ : ∀ x y h' tk, k1.Is xs n x → k2.Is ys n y → IsZip h' z TI TO (rawInt s.heap.objs.size) → IsPair h' TO x y → k1.At h' i1 (n + 1) → k2.At h' i2 (n + 1) → IsPair h' s.heap.objs.size x y → h'.objs.size = s.heap.objs.size + 1 →
      (∀ c o, c ≠ z → c ≠ TO → c ≠ i1 → c ≠ i2 → s.heap.get? c = some o → h'.get? c = some o) → Q (.ref s.heap.objs.size) { s with heap := h', toks := tk }) :
    wpAny (model prog w) A (Builtin.«zip.__next__» ⟨[.ref z], []⟩) (fun fin s' => ∃ v, fin = .done (.ret v) ∧ Q v s') E s := by
  show wpAny _ _ (field (.ref z) 2 >>= _) _ _ _
  refine wpAny_bind (wpAny_field hz rfl (x := .bool false) rfl ?_)
  show wpAny _ _ (field (.ref z) 3 >>= _) _ _ _
  refine wpAny_bind (wpAny_field hz rfl (x := .ref TI) rfl ?_)
  refine wpAny_bind (wpAny_seqItems hTI rfl ?_)
  show wpAny _ _ (Builtin.SmallTypes.ownedTupleIsFree (.ref z) >>= _) _ _ _
  refine wpAny_bind ?_
  unfold Builtin.SmallTypes.ownedTupleIsFree
  refine wpAny_bind (wpAny_field hz rfl (x := .none) rfl (wpAny_pure ?_))
  simp only [if_true]
  refine wpAny_bind (wpAny_rule ?_)
  refine wpAny_bind (wpAny_field hz rfl (x := .ref TO) rfl ?_)
  refine wpAny_bind (wpAny_setField_rec hz (by simp) fun h₁ hz₁ hs₁ => ?_)
  replace hz₁ : IsZip h₁ z TI TO .ellipsis := hz₁
  refine wpAny_bind ?_
  simp only [List.zipIdx_cons, List.zipIdx_nil, List.forIn_cons, List.forIn_nil]
  refine wpAny_bind (wpAny_bind (wpAny_onRaise ?_))
  show wpAny _ _ (Builtin.SmallTypes.nextOf (.ref i1) >>= _) _ _ _
  refine wpAny_bind (next_item (h1.ext hs₁.extBut D.i1z) (hl1.ext hs₁.extBut O1.1) hx fun x h₂ tk₂ ix h1₂ hs₂ => wpAny_pure ?_)
  have hTO₂ : IsPair h₂ TO a b := hs₂.extBut _ _ D.TOi1 (hs₁.extBut _ _ D.TOz hTO)
  refine wpAny_bind (wpAny_seqItems hTO₂ rfl ?_)
  refine wpAny_bind (wpAny_updateSeq_pair hTO₂ fun h₃ hTO₃ hs₃ => ?_)
  replace hTO₃ : IsPair h₃ TO x b := hTO₃
  refine wpAny_bind (wpAny_letGo (wpAny_pure ?_))
  refine wpAny_bind (wpAny_bind (wpAny_onRaise ?_))
  show wpAny _ _ (Builtin.SmallTypes.nextOf (.ref i2) >>= _) _ _ _
  refine wpAny_bind (next_item (((h2.ext hs₁.extBut D.i2z).ext hs₂.extBut D.i12.symm).ext hs₃.extBut D.TOi2.symm)
    (((hl2.ext hs₁.extBut O2.1).ext hs₂.extBut O2.2.2.1).ext hs₃.extBut O2.2.1) hy fun y h₄ tk₄ iy h2₄ hs₄ => wpAny_pure ?_)
  have hTO₄ : IsPair h₄ TO x b := hs₄.extBut _ _ D.TOi2 hTO₃
  refine wpAny_bind (wpAny_seqItems hTO₄ rfl ?_)
  refine wpAny_bind (wpAny_updateSeq_pair hTO₄ fun h₅ hTO₅ hs₅ => ?_)
  replace hTO₅ : IsPair h₅ TO x y := hTO₅
  refine wpAny_bind (wpAny_letGo (wpAny_pure (wpAny_pure ?_)))
  refine wpAny_bind (wpAny_seqItems hTO₅ rfl ?_)
  refine wpAny_bind (wpAny_newTuple ?_)
  have hsz : h₅.objs.size = s.heap.objs.size := by rw [hs₅.1, hs₄.1, hs₃.1, hs₂.1, hs₁.1]
  have hz₅ : IsZip h₅ z TI TO .ellipsis := hs₅.extBut _ _ D.TOz.symm (hs₄.extBut _ _ D.i2z.symm (hs₃.extBut _ _ D.TOz.symm (hs₂.extBut _ _ D.i1z.symm hz₁)))
  have hk₅ : ∀ c o, c ≠ z → c ≠ TO → c ≠ i1 → c ≠ i2 → s.heap.get? c = some o → h₅.get? c = some o := fun c o c1 c2 c3 c4 e =>
    hs₅.extBut _ _ c2 (hs₄.extBut _ _ c4 (hs₃.extBut _ _ c2 (hs₂.extBut _ _ c3 (hs₁.extBut _ _ c1 e))))
  have h1₅ : k1.At h₅ i1 (n + 1) := ((h1₂.ext hs₃.extBut D.TOi1.symm).ext hs₄.extBut D.i12).ext hs₅.extBut D.TOi1.symm
  have h2₅ : k2.At h₅ i2 (n + 1) := h2₄.ext hs₅.extBut D.TOi2.symm
  have hzlt : z < h₅.objs.size := Heap.lt_size hz₅
  show wpAny _ _ (Builtin.SmallTypes.ownedTupleHandOut (.ref z) (.ref h₅.objs.size) >>= _) _ _ _
  refine wpAny_bind ?_
  unfold Builtin.SmallTypes.ownedTupleHandOut
  have hz₆ : IsZip (h₅.push { cls := .type "tuple", data := .seq #[x, y] }) z TI TO .ellipsis := Heap.get?_push_of_some _ hz₅
  refine wpAny_bind (wpAny_setField_rec hz₆ (by simp) fun h₇ hz₇ hs₇ => ?_)
  replace hz₇ : IsZip h₇ z TI TO (rawInt h₅.objs.size) := hz₇
  refine wpAny_setField_rec hz₇ (by simp) fun h₈ hz₈ hs₈ => ?_
  replace hz₈ : IsZip h₈ z TI TO (rawInt h₅.objs.size) := hz₈
  have up : ∀ c o, c ≠ z → h₅.get? c = some o → h₈.get? c = some o := fun c o c1 e => hs₈.extBut _ _ c1 (hs₇.extBut _ _ c1 (Heap.get?_push_of_some _ e))
  have hT₈ : IsPair h₈ h₅.objs.size x y := hs₈.extBut _ _ (Nat.ne_of_gt hzlt) (hs₇.extBut _ _ (Nat.ne_of_gt hzlt) (Heap.get?_push_size _ rfl))
  have hz8 : h₈.objs.size = h₅.objs.size + 1 := by rw [hs₈.1, hs₇.1, Heap.size_push]
  rw [hsz] at hz₈ hT₈ hz8
  refine wpAny_pure ⟨_, rfl, ?_⟩
  show Q (.ref h₅.objs.size) _
  rw [hsz]
  exact hQ x y h₈ _ ix iy hz₈ (up _ _ D.TOz hTO₅) (h1₅.at fun o e => up _ o D.i1z e) (h2₅.at fun o e => up _ o D.i2z e) hT₈ hz8 fun c o c1 c2 c3 c4 e => up c o c1 (hk₅ c o c1 c2 c3 c4 e)
theorem zip_end {z TI TO i1 i2 : Addr} {k1 k2 : ZK} {n : Nat} {xs ys : Array Value} {a b : Value} {Q : Fin → Shared → Prop} (hh : A.handled = none) (D : Apart z TI TO i1 i2) (O1 : OffAll k1 z TO i1 i2) (O2 : OffAll k2 z TO i1 i2)
    (hz : IsZip s.heap z TI TO .none) (hTI : IsPair s.heap TI (.ref i1) (.ref i2)) (hTO : IsPair s.heap TO a b)
    (h1 : k1.At s.heap i1 n) (h2 : k2.At s.heap i2 n) (hl1 : k1.Src s.heap xs) (hl2 : k2.Src s.heap ys) (hend : ¬ (k1.Has xs n ∧ k2.Has ys n))
    (hE : ∀ h' e tk, (∀ c o, c ≠ z → c ≠ TO → c ≠ i1 → c ≠ i2 → s.heap.get? c = some o → h'.get? c = some o) → (∃ o, h'.get? e = some o ∧ o.cls = .type "StopIteration") → E (.ref e) { s with heap := h', toks := tk }) :
    wpAny (model prog w) A (Builtin.«zip.__next__» ⟨[.ref z], []⟩) Q E s := by
  show wpAny _ _ (field (.ref z) 2 >>= _) _ _ _
  refine wpAny_bind (wpAny_field hz rfl (x := .bool false) rfl ?_)
  show wpAny _ _ (field (.ref z) 3 >>= _) _ _ _
  refine wpAny_bind (wpAny_field hz rfl (x := .ref TI) rfl ?_)
  refine wpAny_bind (wpAny_seqItems hTI rfl ?_)
  show wpAny _ _ (Builtin.SmallTypes.ownedTupleIsFree (.ref z) >>= _) _ _ _
  refine wpAny_bind ?_
  unfold Builtin.SmallTypes.ownedTupleIsFree
  refine wpAny_bind (wpAny_field hz rfl (x := .none) rfl (wpAny_pure ?_))
  simp only [if_true]
  refine wpAny_bind (wpAny_rule ?_)
  refine wpAny_bind (wpAny_field hz rfl (x := .ref TO) rfl ?_)
  refine wpAny_bind (wpAny_setField_rec hz (by simp) fun h₁ hz₁ hs₁ => ?_)
  replace hz₁ : IsZip h₁ z TI TO .ellipsis := hz₁
  refine wpAny_bind ?_
  simp only [List.zipIdx_cons, List.zipIdx_nil, List.forIn_cons, List.forIn_nil]
  refine wpAny_bind (wpAny_bind (wpAny_onRaise ?_))
  show wpAny _ _ (Builtin.SmallTypes.nextOf (.ref i1) >>= _) _ _ _
  by_cases hx : k1.Has xs n
  · have hy : ¬ k2.Has ys n := fun h => hend ⟨hx, h⟩
    refine wpAny_bind (next_item (h1.ext hs₁.extBut D.i1z) (hl1.ext hs₁.extBut O1.1) hx fun x h₂ tk₂ ix h1₂ hs₂ => wpAny_pure ?_)
    have hTO₂ : IsPair h₂ TO a b := hs₂.extBut _ _ D.TOi1 (hs₁.extBut _ _ D.TOz hTO)
    refine wpAny_bind (wpAny_seqItems hTO₂ rfl ?_)
    refine wpAny_bind (wpAny_updateSeq_pair hTO₂ fun h₃ hTO₃ hs₃ => ?_)
    refine wpAny_bind (wpAny_letGo (wpAny_pure ?_))
    refine wpAny_bind (wpAny_bind (wpAny_onRaise ?_))
    show wpAny _ _ (Builtin.SmallTypes.nextOf (.ref i2) >>= _) _ _ _
    refine wpAny_bind (next_end hh (((h2.ext hs₁.extBut D.i2z).ext hs₂.extBut D.i12.symm).ext hs₃.extBut D.TOi2.symm)
      (((hl2.ext hs₁.extBut O2.1).ext hs₂.extBut O2.2.2.1).ext hs₃.extBut O2.2.1) hy fun h₄ e hs₄ he => ?_)
    obtain ⟨oe, hoe, hce⟩ := he
    have hz₄ : IsZip h₄ z TI TO .ellipsis := hs₄ _ _ D.i2z.symm (hs₃.extBut _ _ D.TOz.symm (hs₂.extBut _ _ D.i1z.symm hz₁))
    have hez : e ≠ z := fun x => by subst x; rw [hz₄] at hoe; cases hoe; simp at hce
    refine wpAny_setField_rec hz₄ (by simp) fun h₅ _ hs₅ => hE h₅ e _ (fun c o c1 c2 c3 c4 x => hs₅.extBut _ _ c1 (hs₄ _ _ c4 (hs₃.extBut _ _ c2 (hs₂.extBut _ _ c3 (hs₁.extBut _ _ c1 x))))) ⟨oe, hs₅.extBut _ _ hez hoe, hce⟩
  · refine wpAny_bind (next_end hh (h1.ext hs₁.extBut D.i1z) (hl1.ext hs₁.extBut O1.1) hx fun h₂ e hs₂ he => ?_)
    obtain ⟨oe, hoe, hce⟩ := he
    have hz₂ : IsZip h₂ z TI TO .ellipsis := hs₂ _ _ D.i1z.symm hz₁
    have hez : e ≠ z := fun x => by subst x; rw [hz₂] at hoe; cases hoe; simp at hce
    refine wpAny_setField_rec hz₂ (by simp) fun h₃ _ hs₃ => hE h₃ e _ (fun c o c1 _ c3 _ x => hs₃.extBut _ _ c1 (hs₂ _ _ c3 (hs₁.extBut _ _ c1 x))) ⟨oe, hs₃.extBut _ _ hez hoe, hce⟩
theorem pyNext_item {z TI TO i1 i2 : Addr} {k1 k2 : ZK} {n : Nat} {xs ys : Array Value} {a b : Value} {Q : Option Value → Shared → Prop} (D : Apart z TI TO i1 i2) (O1 : OffAll k1 z TO i1 i2) (O2 : OffAll k2 z TO i1 i2)
    (hz : IsZip s.heap z TI TO .none) (hTI : IsPair s.heap TI (.ref i1) (.ref i2)) (hTO : IsPair s.heap TO a b)
    (h1 : k1.At s.heap i1 n) (h2 : k2.At s.heap i2 n) (hl1 : k1.Src s.heap xs) (hl2 : k2.Src s.heap ys) (hx : k1.Has xs n) (hy : k2.Has ys n)
    (hQ : ∀ x y h' tk, k1.Is xs n x → k2.Is ys n y → IsZip h' z TI TO (rawInt s.heap.objs.size) → IsPair h' TO x y → k1.At h' i1 (n + 1) → k2.At h' i2 (n + 1) → IsPair h' s.heap.objs.size x y → h'.objs.size = s.heap.objs.size + 1 →
      (∀ c o, c ≠ z → c ≠ TO → c ≠ i1 → c ≠ i2 → s.heap.get? c = some o → h'.get? c = some o) → Q (some (.ref s.heap.objs.size)) { s with heap := h', toks := tk }) :
    wpAny (model prog w) A (pyNext (.ref z)) Q E s := by
  have hT : s.TypeIs (.ref z) "zip" := ⟨_, hz, rfl⟩
  unfold pyNext
  exact wpAny_bind (wpAny_attempt (wpAny_callSpecial?_slot (name := Str.ofString "__next__") hT PySem.F.slot_zip_next
    (wpAny_call_entry PySem.F.slot_zip_next hT PySem.F.entry_zip_next
      (zip_item D O1 O2 hz hTI hTO h1 h2 hl1 hl2 hx hy fun x y h' tk b1 b2 a1 a2 a3 a4 a5 a6 a7 => wpAny_pure (hQ x y h' tk b1 b2 a1 a2 a3 a4 a5 a6 a7)) (PySem.F.args_zip_next_1 _))))
theorem pyNext_end {z TI TO i1 i2 : Addr} {k1 k2 : ZK} {n : Nat} {xs ys : Array Value} {a b : Value} {Q : Option Value → Shared → Prop} (hh : A.handled = none) (D : Apart z TI TO i1 i2) (O1 : OffAll k1 z TO i1 i2) (O2 : OffAll k2 z TO i1 i2)
    (hz : IsZip s.heap z TI TO .none) (hTI : IsPair s.heap TI (.ref i1) (.ref i2)) (hTO : IsPair s.heap TO a b)
    (h1 : k1.At s.heap i1 n) (h2 : k2.At s.heap i2 n) (hl1 : k1.Src s.heap xs) (hl2 : k2.Src s.heap ys) (hend : ¬ (k1.Has xs n ∧ k2.Has ys n))
    (hQ : ∀ h' tk, (∀ c o, c ≠ z → c ≠ TO → c ≠ i1 → c ≠ i2 → s.heap.get? c = some o → h'.get? c = some o) → Q none { s with heap := h', toks := tk }) : wpAny (model prog w) A (pyNext (.ref z)) Q E s := by
  have hT : s.TypeIs (.ref z) "zip" := ⟨_, hz, rfl⟩
  unfold pyNext
  refine wpAny_bind (wpAny_attempt (wpAny_callSpecial?_slot (name := Str.ofString "__next__") hT PySem.F.slot_zip_next
    (wpAny_call_entry PySem.F.slot_zip_next hT PySem.F.entry_zip_next (zip_end hh D O1 O2 hz hTI hTO h1 h2 hl1 hl2 hend fun h' e tk hk he => ?_) (PySem.F.args_zip_next_1 _))))
  obtain ⟨o, ho, hc⟩ := he
  refine wpAny_bind (wpAny_isInstance (T := "StopIteration") (b := true) ⟨o, ho, hc⟩ isSubtype_stop ?_)
  exact wpAny_pure (hQ _ _ hk)
end
/-! ### zip(a, b) -/
abbrev H1 (h : Heap) (k1 : ZK) : Heap := h.push { cls := .type k1.ty, data := .fields #[k1.val, .int 0 0] }
abbrev H2 (h : Heap) (k1 k2 : ZK) : Heap := (H1 h k1).push { cls := .type k2.ty, data := .fields #[k2.val, .int 0 0] }
abbrev H3 (h : Heap) (k1 k2 : ZK) : Heap := (H2 h k1 k2).push { cls := .type "tuple", data := .seq #[.ref h.objs.size, .ref (H1 h k1).objs.size] }
abbrev H4 (h : Heap) (k1 k2 : ZK) : Heap := (H3 h k1 k2).push { cls := .type "tuple", data := .seq #[.none, .none] }
abbrev H5 (h : Heap) (k1 k2 : ZK) : Heap := (H4 h k1 k2).push { cls := .type "zip", data := .fields #[.none, .bool false, .bool false, .ref (H2 h k1 k2).objs.size, .ref (H3 h k1 k2).objs.size] }
theorem ZK.Src.push {k : ZK} {h : Heap} {xs : Array Value} (y : k.Src h xs) (o : Obj) : k.Src (h.push o) xs := by
  cases k with
  | lst a => exact Heap.IsList.push (show h.IsList a xs from y) o
  | tup a => exact Heap.IsTuple.push (show h.IsTuple a xs from y) o
  | str x t => trivial
theorem meets_zip_new (k1 k2 : ZK) (xs ys : Array Value) :
    Meets (Builtin.«zip.__new__» ⟨[.type "zip", k1.val, k2.val], []⟩) (fun _ R s => k1.Src s.heap xs ∧ k2.Src s.heap ys ∧
      R (.ok (.ret (.ref (H4 s.heap k1 k2).objs.size))) { s with heap := H5 s.heap k1 k2 }) :=
  .of_wp fun prog w A R s h => by
    obtain ⟨hp, g, d, tk, os⟩ := s; obtain ⟨hl1, hl2, h⟩ := h
    have hsub := sub_zip
    have hL1 : k1.Src (Shared.heap ⟨hp, g, d, tk, os⟩) xs := hl1
    have hL2 : k2.Src (Shared.heap ⟨hp.push { cls := .type k1.ty, data := .fields #[k1.val, .int 0 0] }, g, d, tk, os⟩) ys := ZK.Src.push hl2 _
    wp_walk using iter_new hL1, iter_new hL2
    exact ⟨_, rfl, h⟩
end DZ

set_option Elab.async false
set_option linter.all false
set_option maxRecDepth 100000
set_option maxHeartbeats 4000000
namespace DZ
open PySem PySem.Spec PyProof.Rows L2
/-- what is walked, by values -/
inductive SV where
  | lst (a : Addr) | tup (a : Addr) | str (x : Str)
def SV.v : SV → V
  | .lst a | .tup a => .ref a
  | .str x => .str x
def SV.k (t : Tok) : SV → ZK
  | .lst a => .lst a
  | .tup a => .tup a
  | .str x => .str x t
def SV.Ok (K : PySem.W.Frag) (H : Hp) (s : SV) (xs : List V) : Prop := match s with
  | .lst a => SqL K H a xs
  | .tup a => SqT K H a xs
  | .str x => xs = x.cps.toList.map fun c => V.str ⟨#[c]⟩
theorem sv_val {s : SV} {u : Value} (r : RelV s.v u) : ∃ t, u = (s.k t).val := by
  cases s with
  | lst a => exact ⟨0, r⟩
  | tup a => exact ⟨0, r⟩
  | str x => exact r
section
variable {X : Cx} {pins : List (Addr × Obj)} {σ : L2.St} {H : Hp} {s : Shared}
theorem sv_src (I : Inv X pins σ H s) {sv : SV} {xs : List V} (t : Tok) (h : sv.Ok X.K H xs) : ∃ its : Array Value, (sv.k t).Src s.heap its ∧ (∀ i, (sv.k t).Has its i ↔ i < xs.length) ∧ ∀ i x v, xs[i]? = some x → (sv.k t).Is its i v → RelV x v := by
  cases sv with
  | lst a =>
    obtain ⟨its, rv, p, _⟩ := I.list (show SqL X.K H a xs from h)
    have hl := rv.length
    refine ⟨its.toArray, p.isList, fun i => ?_, fun i x v e q => ?_⟩
    · show i < its.toArray.size ↔ _
      rw [List.size_toArray, hl]
    · obtain ⟨u, hu, ru⟩ := rv.get e
      have q : its.toArray[i]? = some v := q
      rw [List.getElem?_toArray, hu] at q
      cases q; exact ru
  | tup a =>
    obtain ⟨its, rv, p, _⟩ := I.tuple (show SqT X.K H a xs from h)
    have hl := rv.length
    refine ⟨its.toArray, p, fun i => ?_, fun i x v e q => ?_⟩
    · show i < its.toArray.size ↔ _
      rw [List.size_toArray, hl]
    · obtain ⟨u, hu, ru⟩ := rv.get e
      have q : its.toArray[i]? = some v := q
      rw [List.getElem?_toArray, hu] at q
      cases q; exact ru
  | str y =>
    have h : xs = y.cps.toList.map fun c => V.str ⟨#[c]⟩ := h
    subst h
    refine ⟨#[], trivial, fun i => ?_, fun i x v e q => ?_⟩
    · show i < y.cps.size ↔ _
      rw [List.length_map, Array.length_toList]
    · obtain ⟨c, u, q1, rfl⟩ := q
      rw [List.getElem?_map, Array.getElem?_toList, q1] at e
      cases e
      exact ⟨u, rfl⟩
theorem sv_inj (I : Inv X pins σ H s) {sv : SV} {xs ys : List V} (h : sv.Ok X.K H xs) (h' : sv.Ok X.K H ys) : xs = ys := by
  cases sv with
  | lst a => exact I.list_inj h h'
  | tup a => exact I.tuple_inj h h'
  | str y => exact (show xs = _ from h).trans (show ys = _ from h').symm
theorem sv_off (I : Inv X pins σ H s) {sv : SV} {xs : List V} {t : Tok} (h : sv.Ok X.K H xs) {b : Addr} (hb : s.heap.objs.size ≤ b) : (sv.k t).Off b := by
  cases sv with
  | lst a =>
    obtain ⟨its, rv, p, _⟩ := I.list (show SqL X.K H a xs from h)
    exact Nat.ne_of_lt (Nat.lt_of_lt_of_le p.lt hb)
  | tup a =>
    obtain ⟨its, rv, ⟨o, ho, _⟩, _⟩ := I.tuple (show SqT X.K H a xs from h)
    exact Nat.ne_of_lt (Nat.lt_of_lt_of_le (Heap.lt_size ho) hb)
  | str y => trivial
end
/-- the two as they stand at each turn, the items in new pairs -/
def Itz2 (K : PySem.W.Frag) (a b : SV) : It :=
  ⟨fun i H => ∃ (xs ys : List V) (x y : V), a.Ok K H xs ∧ b.Ok K H ys ∧ xs[i]? = some x ∧ ys[i]? = some y,
    fun i H v H' => ∃ T x y, v = .ref T ∧ H T = none ∧ H' = upd H T (.tup [x, y]) ∧ (∀ xs, a.Ok K H xs → xs[i]? = some x) ∧ ∀ ys, b.Ok K H ys → ys[i]? = some y,
    fun i H => ∃ xs ys : List V, a.Ok K H xs ∧ b.Ok K H ys ∧ (xs.length ≤ i ∨ ys.length ≤ i)⟩
theorem turn_zip2 {P : Program} {w : World} {K : PySem.W.Frag} {elts : List Expr} {kk : Nat} {tpos : Pos} {a b : SV} {ta tb : Tok} {z TI TO i1 i2 : Addr} (D : Apart z TI TO i1 i2) (O1 : OffAll (a.k ta) z TO i1 i2) (O2 : OffAll (b.k tb) z TO i1 i2) :
    Turn P w K (.Tuple elts kk tpos) (Itz2 K a b) [z, TI, TO, i1, i2] z (fun i h => IsZip h z TI TO .none ∧ IsPair h TI (.ref i1) (.ref i2) ∧ (∃ x y, IsPair h TO x y) ∧ (a.k ta).At h i1 i ∧ (b.k tb).At h i2 i) where
  mem := by simp
  obj := fun i h st c hc => by
    obtain ⟨hz, hTI, ⟨x, y, hTO⟩, ⟨o1, e1, _, d1⟩, ⟨o2, e2, _, d2⟩⟩ := st
    have e' : c = z ∨ c = TI ∨ c = TO ∨ c = i1 ∨ c = i2 := by simpa using hc
    rcases e' with q | q | q | q | q
    · rw [q]; exact ⟨_, hz, fun v q => nomatch q⟩
    · rw [q]; exact ⟨_, hTI, fun v q => nomatch q⟩
    · rw [q]; exact ⟨_, hTO, fun v q => nomatch q⟩
    · rw [q]; exact ⟨o1, e1, fun v q => by rw [d1] at q; cases q⟩
    · rw [q]; exact ⟨o2, e2, fun v q => by rw [d2] at q; cases q⟩
  keep := fun i h h' st k => by
    obtain ⟨hz, hTI, ⟨x, y, hTO⟩, h1, h2⟩ := st
    exact ⟨k z (by simp) _ hz, k TI (by simp) _ hTI, ⟨x, y, k TO (by simp) _ hTO⟩, h1.at fun o q => k i1 (by simp) o q, h2.at fun o q => k i2 (by simp) o q⟩
  item := by
    intro X hP hw hK hc i pins s σ H E I hf st hg
    subst hP hw hK
    obtain ⟨hz, hTI, ⟨x0, y0, hTO⟩, h1, h2⟩ := st
    obtain ⟨xs, ys, x, y, hqx, hqy, hx, hy⟩ := hg
    obtain ⟨its, p1, n1, r1⟩ := sv_src I ta hqx
    obtain ⟨its2, p2, n2, r2⟩ := sv_src I tb hqy
    have hzl : z < s.heap.objs.size := Heap.lt_size hz
    refine pyNext_item D O1 O2 hz hTI hTO h1 h2 p1 p2 ((n1 i).mpr (List.getElem?_eq_some_iff.mp hx).1) ((n2 i).mpr (List.getElem?_eq_some_iff.mp hy).1) fun u u2 h' tk iu iu2 z' TO' h1' h2' hT hsz hk => ?_
    have ru := r1 i x u hx iu
    have ru2 := r2 i y u2 hy iu2
    refine ⟨_, rfl, wpAny_letOwnedTupleGo_zip (s := { s with heap := h', toks := tk }) z' fun h'' z'' sb => ?_⟩
    have hT2 : h''.get? s.heap.objs.size = some { cls := .type "tuple", data := .seq #[u, u2] } := (sb.2 _ (Nat.ne_of_gt hzl)).trans hT
    have new : ObjOk X.prog X.w (upd H s.heap.objs.size (.tup [x, y])) h'' s.heap.objs.size (.tup [x, y]) :=
      ⟨by show 2 ≤ sizeLine; decide, [u, u2], .cons ru (.cons ru2 .nil), ⟨_, hT2, rfl, _, rfl⟩⟩
    have I1 : Inv X pins σ (upd H s.heap.objs.size (.tup [x, y])) { s with heap := h'', toks := tk } :=
      I.turnedNew (t' := tk) (ch := [z, TI, TO, i1, i2]) (fun c o hb q => (sb.2 c (fun q' => hb (by simp [q']))).trans (hk c o (fun q' => hb (by simp [q'])) (fun q' => hb (by simp [q'])) (fun q' => hb (by simp [q'])) (fun q' => hb (by simp [q'])) q)) hf (Nat.le_refl _) new
    refine ⟨.ref s.heap.objs.size, _, I1, rfl, ⟨_, x, y, rfl, I.hok.fresh (Nat.le_refl _), rfl, fun l hl => by rw [sv_inj I hl hqx]; exact hx, fun l hl => by rw [sv_inj I hl hqy]; exact hy⟩, ⟨z'', ?_, ⟨u, u2, ?_⟩, ?_, ?_⟩, fun c hcm => ?_⟩
    · exact (sb.2 _ D.TIz).trans (hk _ _ D.TIz D.TITO D.TIi1 D.TIi2 hTI)
    · exact (sb.2 _ D.TOz).trans TO'
    · exact h1'.at fun o q => (sb.2 _ D.i1z).trans q
    · exact h2'.at fun o q => (sb.2 _ D.i2z).trans q
    · have hlt : c < s.heap.objs.size := by
        have e' : c = z ∨ c = TI ∨ c = TO ∨ c = i1 ∨ c = i2 := by simpa using hcm
        rcases e' with q | q | q | q | q
        · rw [q]; exact hzl
        · rw [q]; exact Heap.lt_size hTI
        · rw [q]; exact Heap.lt_size hTO
        · rw [q]; obtain ⟨_, e1, _⟩ := h1; exact Heap.lt_size e1
        · rw [q]; obtain ⟨_, e2, _⟩ := h2; exact Heap.lt_size e2
      rw [upd_ne (Nat.ne_of_lt hlt)]
      exact (hf c hcm).1
  done := by
    intro X hP hw hK hc i pins s σ H E I hf st hg
    subst hP hw hK
    obtain ⟨hz, hTI, ⟨x0, y0, hTO⟩, h1, h2⟩ := st
    obtain ⟨xs, ys, hqx, hqy, hend⟩ := hg
    obtain ⟨its, p1, n1, r1⟩ := sv_src I ta hqx
    obtain ⟨its2, p2, n2, r2⟩ := sv_src I tb hqy
    have he : ¬ ((a.k ta).Has its i ∧ (b.k tb).Has its2 i) := fun ⟨q1, q2⟩ => by
      have := (n1 i).mp q1
      have := (n2 i).mp q2
      omega
    exact pyNext_end (I.ok.hd hc) D O1 O2 hz hTI hTO h1 h2 p1 p2 he fun h' tk hk => ⟨rfl, I.turnedL (t' := tk) (ch := [z, TI, TO, i1, i2]) (fun c o hb q =>
      hk c o (fun q' => hb (by simp [q'])) (fun q' => hb (by simp [q'])) (fun q' => hb (by simp [q'])) (fun q' => hb (by simp [q'])) q) hf⟩
  self := fun A i s Q E st h => wpAny_pyIter_zip st.1 h
section
variable {prog : Program} {w : World} {A : Around} {E : Value → Shared → Prop} {s : Shared}
theorem call_zip {k1 k2 : ZK} {xs ys : Array Value} {Q : Value → Shared → Prop} (hl1 : k1.Src s.heap xs) (hl2 : k2.Src s.heap ys)
    (h : ∀ h', IsZip h' (s.heap.objs.size + 4) (s.heap.objs.size + 2) (s.heap.objs.size + 3) .none → IsPair h' (s.heap.objs.size + 2) (.ref s.heap.objs.size) (.ref (s.heap.objs.size + 1)) →
      IsPair h' (s.heap.objs.size + 3) .none .none → k1.At h' s.heap.objs.size 0 → k2.At h' (s.heap.objs.size + 1) 0 → h'.objs.size = s.heap.objs.size + 5 →
      (∀ c o, s.heap.get? c = some o → h'.get? c = some o) → Q (.ref (s.heap.objs.size + 4)) { s with heap := h' }) :
    wpAny (model prog w) A (call (.type "zip") [k1.val, k2.val]) Q E s := by
  refine callType_new PySem.F.called_zip (by decide) (PySem.F.typeCall_zip_2 _ _) (PySem.F.newCall_zip_2 _ _) (fun obj => PySem.F.args_object_init_3 obj _ _) PySem.F.entry_zip_new
    (meets_zip_new k1 k2 xs ys) ⟨hl1, hl2, ?_⟩
  have z1 : (H1 s.heap k1).objs.size = s.heap.objs.size + 1 := Heap.size_push ..
  have z2 : (H2 s.heap k1 k2).objs.size = s.heap.objs.size + 2 := by rw [Heap.size_push, z1]
  have z3 : (H3 s.heap k1 k2).objs.size = s.heap.objs.size + 3 := by rw [Heap.size_push, z2]
  have z4 : (H4 s.heap k1 k2).objs.size = s.heap.objs.size + 4 := by rw [Heap.size_push, z3]
  have z5 : (H5 s.heap k1 k2).objs.size = s.heap.objs.size + 5 := by rw [Heap.size_push, z4]
  have g5 : (H5 s.heap k1 k2).get? (H4 s.heap k1 k2).objs.size = some _ := Heap.get?_push_size _ rfl
  have g4 : (H5 s.heap k1 k2).get? (H3 s.heap k1 k2).objs.size = some _ := Heap.get?_push_of_some _ (Heap.get?_push_size _ rfl)
  have g3 : (H5 s.heap k1 k2).get? (H2 s.heap k1 k2).objs.size = some _ := Heap.get?_push_of_some _ (Heap.get?_push_of_some _ (Heap.get?_push_size _ rfl))
  have g2 : (H5 s.heap k1 k2).get? (H1 s.heap k1).objs.size = some _ := Heap.get?_push_of_some _ (Heap.get?_push_of_some _ (Heap.get?_push_of_some _ (Heap.get?_push_size _ rfl)))
  have g1 : (H5 s.heap k1 k2).get? s.heap.objs.size = some _ := Heap.get?_push_of_some _ (Heap.get?_push_of_some _ (Heap.get?_push_of_some _ (Heap.get?_push_of_some _ (Heap.get?_push_size _ rfl))))
  show _ ∧ _
  rw [z2, z3, z4] at g5
  rw [z1, z2] at g3
  rw [z3] at g4
  rw [z1] at g2
  rw [z4]
  exact ⟨⟨_, g5, rfl⟩, h _ g5 g3 g4 ⟨_, g1, rfl, rfl⟩ ⟨_, g2, rfl, rfl⟩ z5 fun c o x =>
    Heap.get?_push_of_some _ (Heap.get?_push_of_some _ (Heap.get?_push_of_some _ (Heap.get?_push_of_some _ (Heap.get?_push_of_some _ x))))⟩
end
theorem apart_new (n : Nat) : Apart (n + 4) (n + 2) (n + 3) n (n + 1) := ⟨(by omega : ((n + 2) ≠ n + 4 : Prop)), (by omega : ((n + 3) ≠ n + 4 : Prop)), (by omega : (n ≠ n + 4 : Prop)), (by omega : ((n + 1) ≠ n + 4 : Prop)), (by omega : ((n + 2) ≠ n + 3 : Prop)), (by omega : ((n + 2) ≠ n : Prop)), (by omega : ((n + 2) ≠ n + 1 : Prop)), (by omega : ((n + 3) ≠ n : Prop)), (by omega : ((n + 3) ≠ n + 1 : Prop)), (by omega : (n ≠ n + 1 : Prop))⟩
def iZip2 (K : PySem.W.Frag) (ta : TA) : TI := fun σ H R => ta σ H fun vs H1 => ∃ (a b : SV) (xs ys : List V), vs = [a.v, b.v] ∧ a.Ok K H1 xs ∧ b.Ok K H1 ys ∧ R (Itz2 K a b) H1
theorem pi_zip2 {X : Cx} {e e2 : Expr} {ta : TA} {p pos tpos : Pos} {elts : List Expr} {kk : Nat} (hg : Gl X "zip") (hm : X.mg "zip" = none) (ha : PA X [e, e2] ta)
    (hs : starEach [e, e2] X.env = (false, eval e X.env) :: starEach [e2] X.env) (hpl : (backTo pos (starEach [e2] X.env)).any (·.1) = false) :
    PI X (.Tuple elts kk tpos) (.Call (.Name "zip" p) [e, e2] [] pos) (iZip2 X.K ta) := by
  refine ⟨fun pins s σ H R I h => ?_⟩
  refine Call_ (ld_blt I hg hm PyProof.Rows.boot_zip (PyProof.Rows.callWith_type1 (thn (ha.run pos pins s σ H _ I h) fun us s1 ⟨vs, H1, I1, r1, q1⟩ => ?_) hs hpl))
  obtain ⟨a, b, xs, ys, ex, hqx, hqy, q⟩ := q1
  subst ex
  cases r1 with
  | cons r rr =>
    cases rr with
    | cons r' rr =>
      cases rr
      obtain ⟨ta, rfl⟩ := sv_val r
      obtain ⟨tb, rfl⟩ := sv_val r'
      have fresh5 : ∀ c, c ∈ [s1.heap.objs.size + 4, s1.heap.objs.size + 2, s1.heap.objs.size + 3, s1.heap.objs.size, s1.heap.objs.size + 1] → s1.heap.objs.size ≤ c := fun c hcm => by
        have e' : c = s1.heap.objs.size + 4 ∨ c = s1.heap.objs.size + 2 ∨ c = s1.heap.objs.size + 3 ∨ c = s1.heap.objs.size ∨ c = s1.heap.objs.size + 1 := by simpa using hcm
        rcases e' with z | z | z | z | z
        · rw [z]; exact Nat.le_add_right _ _
        · rw [z]; exact Nat.le_add_right _ _
        · rw [z]; exact Nat.le_add_right _ _
        · rw [z]; exact Nat.le_refl _
        · rw [z]; exact Nat.le_add_right _ _
      obtain ⟨its, p1, _, _⟩ := sv_src I1 ta hqx
      obtain ⟨its2, p2, _, _⟩ := sv_src I1 tb hqy
      refine call_zip p1 p2 fun h' hz hTI hTO h1 h2 hsz hk => wpAny_pyIter_zip hz ?_
      have I2 : Inv X pins σ H1 { s1 with heap := h' } := I1.kept (t' := s1.toks) hk
      have off : ∀ {sv : SV} {t : Tok} {zs : List V}, sv.Ok X.K H1 zs → OffAll (sv.k t) (s1.heap.objs.size + 4) (s1.heap.objs.size + 3) s1.heap.objs.size (s1.heap.objs.size + 1) := fun hq =>
        ⟨sv_off I1 hq (Nat.le_add_right _ _), sv_off I1 hq (Nat.le_add_right _ _), sv_off I1 hq (Nat.le_refl _), sv_off I1 hq (Nat.le_add_right _ _)⟩
      exact ⟨s1.heap.objs.size + 4, [s1.heap.objs.size + 4, s1.heap.objs.size + 2, s1.heap.objs.size + 3, s1.heap.objs.size, s1.heap.objs.size + 1], _, _, H1, rfl, I2,
        turn_zip2 (apart_new s1.heap.objs.size) (off hqx) (off hqy), ⟨hz, hTI, ⟨_, _, hTO⟩, h1, h2⟩, fun c hcm => I1.fpOk (fresh5 c hcm) (I1.hok.fresh (fresh5 c hcm)), q⟩
end DZ

set_option Elab.async false
set_option linter.all false
set_option maxRecDepth 100000
set_option maxHeartbeats 4000000
namespace DL
open PySem L2
/-! ### what is walked -/
/-- the iterator yields the items, one by one, while the values of gh stand as they are -/
structure WalkD (R : RP) (J : It) (gh : List (V × D)) (ds : List D) : Prop where
  len : ds.length ≤ 2 ^ 63
  go : ∀ (i : Nat) (M : Addr → Prop) (H : Hp) (d : D), (∀ p ∈ gh, Rep R M H p.1 p.2) → ds[i]? = some d → FreshM M H → J.go i H ∧ ∀ x H', J.yld i H x H' → Same H H' ∧ Rep R M H' x d
  stop : ∀ (i : Nat) (M : Addr → Prop) (H : Hp), (∀ p ∈ gh, Rep R M H p.1 p.2) → ds.length ≤ i → J.stop i H
section
variable (R : RP) (C : XCl) (Γ : Gm) (B : Nat) (EX : WX)
def tI (it : I) : TI := fun σ H K => ∃ F ρ n nb x, Pre R C B EX F σ ρ H n (cI Γ it) nb x ∧ wI Γ x it ρ fun ds ρ' => ∀ J gh H' n', Stp R F σ ρ H n (cI Γ it) ρ' H' n' → (∀ p ∈ gh, Rep R (MM F ρ' σ) H' p.1 p.2) → WalkD R J gh ds → K J H'
end
theorem imI {X : Cx} {tg e : Expr} {t t' : TI} (h : PI X tg e t) (k : ∀ σ H Q, t' σ H Q → t σ H Q) : PI X tg e t' := ⟨fun pins s σ H Q I q => h.run pins s σ H Q I (k σ H Q q)⟩
section
variable {R : RP} {C : XCl} {Γ : Gm} {B m ng : Nat} {EX : WX} {N : List Str} {sc : Scope} {fb : Str → Bool} {X : Cx} {F : FrD} {σ : St} {ρ ρ' ρ1 : Rho} {H H' H1 : Hp} {n n' n1 c nb : Nat}
variable {tg a b e1 e : Expr} {es : List Expr} {p q r : E} {ps qs : Es} {pos : Pos} {Q : VK}
theorem Rep.invL {M : Addr → Prop} {v : V} {ds : List D} (h : Rep R M H v (.lst ds)) : ∃ a xs, v = .ref a ∧ LsM R.K M H a xs ∧ xs.length ≤ sizeLine ∧ RepAll R M H xs ds := by
  cases h with
  | lst h l r => exact ⟨_, _, rfl, h, l, r⟩
theorem Rep.invT {M : Addr → Prop} {v : V} {ds : List D} (h : Rep R M H v (.tup ds)) : ∃ a xs, v = .ref a ∧ TpM R.K M H a xs ∧ xs.length ≤ sizeLine ∧ RepAll R M H xs ds := by
  cases h with
  | tup h l r => exact ⟨_, _, rfl, h, l, r⟩
theorem Rep.invS {M : Addr → Prop} {v : V} {x : Str} (h : Rep R M H v (.str x)) : v = .str x ∧ SOk x := by
  cases h with
  | str _ k => exact ⟨rfl, k⟩
theorem szL {l : Nat} (h : l ≤ sizeLine) : l ≤ 2 ^ 63 := Nat.le_trans h (by show 2 ^ 24 ≤ 2 ^ 63; exact Nat.pow_le_pow_right (by decide) (by decide))
theorem walk_lst {K : PySem.W.Frag} {a : Addr} {ds : List D} (hl : ds.length ≤ sizeLine) : WalkD R (Itl K a) [(.ref a, .lst ds)] ds := by
  refine ⟨szL hl, fun i M H d g e fm => ?_, fun i M H g e => ?_⟩
  · obtain ⟨a', xs, ea, h, l, r⟩ := (g _ List.mem_cons_self).invL
    cases ea
    obtain ⟨v, e1, rv⟩ := r.get e
    refine ⟨⟨_, v, SqL.of h.2, e1⟩, fun x H' y => ?_⟩
    obtain ⟨rfl, y⟩ := y
    have := y _ (SqL.of h.2)
    rw [e1] at this; cases this
    exact ⟨Same.refl _, rv⟩
  · obtain ⟨a', xs, ea, h, l, r⟩ := (g _ List.mem_cons_self).invL
    cases ea
    exact ⟨_, SqL.of h.2, by rw [r.length]; exact e⟩
theorem walk_tup {K : PySem.W.Frag} {a : Addr} {ds : List D} (hK : R.K = K) (hl : ds.length ≤ sizeLine) : WalkD R (Itt K a) [(.ref a, .tup ds)] ds := by
  subst hK
  refine ⟨szL hl, fun i M H d g e fm => ?_, fun i M H g e => ?_⟩
  · obtain ⟨a', xs, ea, h, l, r⟩ := (g _ List.mem_cons_self).invT
    cases ea
    obtain ⟨v, e1, rv⟩ := r.get e
    refine ⟨⟨_, v, h.sq, e1⟩, fun x H' y => ?_⟩
    obtain ⟨rfl, y⟩ := y
    have := y _ h.sq
    rw [e1] at this; cases this
    exact ⟨Same.refl _, rv⟩
  · obtain ⟨a', xs, ea, h, l, r⟩ := (g _ List.mem_cons_self).invT
    cases ea
    exact ⟨_, h.sq, by rw [r.length]; exact e⟩
theorem walk_str {x : Str} (k : SOk x) : WalkD R (Its x) [] (signs x) := by
  have hl : (signs x).length = x.cps.size := by unfold signs; rw [List.length_map, Array.length_toList]
  refine ⟨by rw [hl]; exact szL k.1, fun i M H d g e fm => ?_, fun i M H g e => by rw [hl] at e; exact e⟩
  have hi : i < x.cps.size := by rw [← hl]; exact (List.getElem?_eq_some_iff.mp e).1
  refine ⟨hi, fun v H' y => ?_⟩
  obtain ⟨rfl, c, e1, rfl⟩ := y
  unfold signs at e
  rw [List.getElem?_map, Array.getElem?_toList, e1] at e
  cases e
  exact ⟨Same.refl _, .str _ (k.one (by rw [← Array.getElem?_toList] at e1; exact List.mem_of_getElem? e1))⟩
theorem walk_rng {lo : Int} {k : Nat} (hk : k ≤ 2 ^ 63) : WalkD R (Itr lo k) [] ((List.range k).map fun i : Nat => D.int (lo + (i : Int))) := by
  refine ⟨by simpa using hk, fun i M H d g e fm => ?_, fun i M H g e => (by simpa using e : k ≤ i)⟩
  rw [List.getElem?_map] at e
  have hi : i < k := by
    by_cases h : i < k
    · exact h
    · rw [List.getElem?_eq_none (by simpa using h)] at e; cases e
  rw [List.getElem?_range hi] at e
  cases e
  refine ⟨hi, fun x H' y => ?_⟩
  obtain ⟨rfl, rfl⟩ := y
  exact ⟨Same.refl _, .int _⟩
/-- a thing that may be walked, by the hand layer's kinds -/
theorem sv_of (hK : R.K = X.K) {M : Addr → Prop} {v : V} {d : D} {ds : List D} (r : Rep R M H v d) (e : itemsOf d = some ds) : ∃ sv : DZ.SV, v = sv.v ∧ ds.length ≤ sizeLine ∧ ∀ M' H', Rep R M' H' v d → ∃ xs, sv.Ok X.K H' xs ∧ RepAll R M' H' xs ds := by
  cases d with
  | lst ys =>
    cases e
    obtain ⟨a, xs, rfl, h, l, r⟩ := r.invL
    refine ⟨.lst a, rfl, by rw [← r.length]; exact l, fun M' H' r' => ?_⟩
    obtain ⟨a', xs', ea, h, l, r⟩ := r'.invL
    cases ea
    exact ⟨_, SqL.of h.2, r⟩
  | tup ys =>
    cases e
    obtain ⟨a, xs, rfl, h, l, r⟩ := r.invT
    refine ⟨.tup a, rfl, by rw [← r.length]; exact l, fun M' H' r' => ?_⟩
    obtain ⟨a', xs', ea, h, l, r⟩ := r'.invT
    cases ea
    exact ⟨_, hK ▸ h.sq, r⟩
  | str x =>
    cases e
    obtain ⟨rfl, k⟩ := r.invS
    exact ⟨.str x, rfl, by unfold signs; rw [List.length_map, Array.length_toList]; exact k.1, fun M' H' r' => ⟨_, rfl, signs_rep k⟩⟩
  | _ => cases e
theorem walk_zip (hK : R.K = X.K) {M0 : Addr → Prop} {v1 v2 : V} {d1 d2 : D} {ds es : List D} (r1 : Rep R M0 H v1 d1) (e1 : itemsOf d1 = some ds) (r2 : Rep R M0 H v2 d2) (e2 : itemsOf d2 = some es) :
    ∃ s1 s2 : DZ.SV, v1 = s1.v ∧ v2 = s2.v ∧ (∃ xs, s1.Ok X.K H xs) ∧ (∃ ys, s2.Ok X.K H ys) ∧ WalkD R (DZ.Itz2 X.K s1 s2) [(v1, d1), (v2, d2)] (List.zipWith (fun p q => D.tup [p, q]) ds es) := by
  obtain ⟨s1, rfl, l1, h1⟩ := sv_of hK r1 e1
  obtain ⟨s2, rfl, l2, h2⟩ := sv_of hK r2 e2
  refine ⟨s1, s2, rfl, rfl, ?_, ?_, ?_⟩
  · obtain ⟨xs, o, _⟩ := h1 _ _ r1
    exact ⟨xs, o⟩
  · obtain ⟨xs, o, _⟩ := h2 _ _ r2
    exact ⟨xs, o⟩
  refine ⟨by rw [List.length_zipWith]; exact Nat.le_trans (Nat.min_le_left _ _) (szL l1), fun i M H d g e fm => ?_, fun i M H g e => ?_⟩
  · obtain ⟨xs, o1, q1⟩ := h1 M H (g (s1.v, d1) List.mem_cons_self)
    obtain ⟨ys, o2, q2⟩ := h2 M H (g (s2.v, d2) (List.mem_cons_of_mem _ List.mem_cons_self))
    rw [List.getElem?_zipWith] at e
    cases ea : ds[i]? with
    | none => rw [ea] at e; cases e
    | some da =>
      cases eb : es[i]? with
      | none => rw [ea, eb] at e; cases e
      | some db =>
        rw [ea, eb] at e
        cases e
        obtain ⟨va, fa, ra⟩ := q1.get ea
        obtain ⟨vb, fb, rb⟩ := q2.get eb
        refine ⟨⟨xs, ys, va, vb, o1, o2, fa, fb⟩, fun x H' y => ?_⟩
        obtain ⟨T, x', y', rfl, hT, rfl, g1, g2⟩ := y
        have z1 := g1 xs o1
        have z2 := g2 ys o2
        rw [fa] at z1; rw [fb] at z2
        cases z1; cases z2
        have k : ExtM M H (upd H T (.tup [va, vb])) := .alloc hT
        exact ⟨Same.alloc hT, .tup (.inl ⟨fm _ hT, upd_same⟩) (by show 2 ≤ sizeLine; decide) (.cons (ra.keep (fun _ z => z) k) (.cons (rb.keep (fun _ z => z) k) .nil))⟩
  · obtain ⟨xs, o1, q1⟩ := h1 M H (g (s1.v, d1) List.mem_cons_self)
    obtain ⟨ys, o2, q2⟩ := h2 M H (g (s2.v, d2) (List.mem_cons_of_mem _ List.mem_cons_self))
    rw [List.length_zipWith] at e
    refine ⟨xs, ys, o1, o2, ?_⟩
    rw [q1.length, q2.length]
    omega
theorem walk_enm {K : PySem.W.Frag} {a : Addr} {ds : List D} (hl : ds.length ≤ sizeLine) : WalkD R (Ite K a) [(.ref a, .lst ds)] ((List.range ds.length).zipWith (fun (i : Nat) p => D.tup [D.int (i : Int), p]) ds) := by
  refine ⟨by rw [List.length_zipWith]; exact Nat.le_trans (Nat.min_le_right _ _) (szL hl), fun i M H d g e fm => ?_, fun i M H g e => ?_⟩
  · obtain ⟨a', xs, ea, h, l, r⟩ := (g _ List.mem_cons_self).invL
    cases ea
    rw [List.getElem?_zipWith] at e
    cases eb : ds[i]? with
    | none =>
      rw [eb] at e
      cases ec : (List.range ds.length)[i]? with
      | none => rw [ec] at e; cases e
      | some z => rw [ec] at e; cases e
    | some db =>
      have hi : i < ds.length := (List.getElem?_eq_some_iff.mp eb).1
      rw [eb, List.getElem?_range hi] at e
      cases e
      obtain ⟨v, e1, rv⟩ := r.get eb
      refine ⟨⟨_, v, SqL.of h.2, e1⟩, fun x H' y => ?_⟩
      obtain ⟨T, x', rfl, hT, rfl, y⟩ := y
      have := y _ (SqL.of h.2)
      rw [e1] at this; cases this
      have k : ExtM M H (upd H T (.tup [.int (i : Nat), v])) := .alloc hT
      exact ⟨Same.alloc hT, .tup (.inl ⟨fm _ hT, upd_same⟩) (by show 2 ≤ sizeLine; decide) (.cons (.int _) (.cons (rv.keep (fun _ z => z) k) .nil))⟩
  · obtain ⟨a', xs, ea, h, l, r⟩ := (g _ List.mem_cons_self).invL
    cases ea
    rw [List.length_zipWith, List.length_range, Nat.min_self] at e
    exact ⟨_, SqL.of h.2, by rw [r.length]; exact e⟩

/-! ### the iterables of the language -/
theorem s_ov (hK : R.K = X.K) (ha : PE X a (tE R C Γ B EX p)) : PI X tg a (tI R C Γ B EX (.ov p)) := by
  refine ⟨fun pins s σ H K I h => ?_⟩
  obtain ⟨F, ρ, n, nb, x, P, h⟩ := h
  simp only [wI] at h
  simp only [cI] at P h
  refine thn (ha.run pins s σ H (fun v H1 => ∃ d ρ1 ds n1, Stp R F σ ρ H n (cE Γ p) ρ1 H1 n1 ∧ Rep R (MM F ρ1 σ) H1 v d ∧ itemsOf d = some ds ∧ ∀ J gh H' n', Stp R F σ ρ H n (cE Γ p) ρ1 H' n' → (∀ p ∈ gh, Rep R (MM F ρ1 σ) H' p.1 p.2) → WalkD R J gh ds → K J H') I
    (s_one P (Nat.le_refl _) h fun r ρ1 v H1 n1 h s1 r1 => ?_)) fun u s1 ⟨v, H1, I1, rv, d, ρ1, ds, n1, S, rep, hd, hR⟩ => ?_
  · obtain ⟨d, ρ2, ⟨ds, e, h⟩, s2, r2⟩ := r1.esc s1.rl h
    exact ⟨d, ρ2, ds, n1, (s1.trans s2).up (Nat.le_refl _), r2, e, h⟩
  · cases rep with
    | lst h l r =>
      cases hd
      cases rv
      obtain ⟨its, rvs, p1, hz⟩ := I1.list (SqL.of (K := X.K) h.2)
      exact wpAny_pyIter_list p1.isList (pi_one (tk := s1.toks) I1 _ (turn_list _ _) ⟨_, Heap.get?_push_size _ rfl, rfl, rfl⟩ (hR _ [(_, _)] H1 n1 S (fun p hp => by
        cases List.mem_singleton.mp hp; exact .lst h l r) (walk_lst (by rw [← r.length]; exact l))))
    | tup h l r =>
      cases hd
      cases rv
      obtain ⟨its, rvs, p1, hz⟩ := I1.tuple (hK ▸ h.sq : SqT X.K H1 _ _)
      exact wpAny_pyIter_tuple (show s1.heap.IsTuple _ its.toArray from p1) (pi_one (tk := s1.toks) I1 _ (turn_tuple _ _) ⟨_, Heap.get?_push_size _ rfl, rfl, rfl⟩ (hR _ [(_, _)] H1 n1 S (fun p hp => by
        cases List.mem_singleton.mp hp; exact .tup h l r) (walk_tup hK (by rw [← r.length]; exact l))))
    | str x k =>
      cases hd
      obtain ⟨t, rfl⟩ := rv
      have q := hR _ [] H1 n1 S (fun p hp => nomatch hp) (walk_str k)
      cases ha : x.cps.all (· < 128)
      · exact wpAny_pyIter_wide ha (pi_one (tk := s1.toks) I1 _ (turn_str _ x t "str_iterator" (.inr rfl)) ⟨_, Heap.get?_push_size _ rfl, rfl, rfl⟩ q)
      · exact wpAny_pyIter_ascii ha (pi_one (tk := s1.toks) I1 _ (turn_str _ x t "str_ascii_iterator" (.inl rfl)) ⟨_, Heap.get?_push_size _ rfl, rfl, rfl⟩ q)
    | _ => cases hd
theorem s_rng {p0 : Pos} (k : Ctx R C Γ B m ng EX N sc fb X) (hg : Gl X "range") (ha : PE X a (tE R C Γ B EX p)) (hs : notSt a = true) : PI X tg (.Call (.Name "range" p0) [a] [] pos) (tI R C Γ B EX (.rng p)) :=
  imI (pi_range1 hg (k.bl "range" (by decide)) (pa_cons ha pa_nil (star_cons hs)) (star_cons hs)) fun σ H K ⟨F, ρ, n, nb, x, P, h⟩ => by
  simp only [wI] at h
  simp only [cI] at P h
  show tE R C Γ B EX p σ H _
  refine s_one P (Nat.le_refl _) h fun r ρ1 v H1 n1 h s1 r1 => ?_
  obtain ⟨d, r1, j, rfl, hj, h⟩ := r1.use s1.rl h
  cases r1.int
  refine ⟨j, rfl, hj.1, hj.2, h _ [] H1 n1 s1 (fun p hp => nomatch hp) ?_⟩
  have := walk_rng (R := R) (lo := 0) (k := j.toNat) (by have := hj.2; omega)
  simpa using this
theorem s_rng2 {p0 : Pos} (k : Ctx R C Γ B m ng EX N sc fb X) (hg : Gl X "range") (ha : PE X a (tE R C Γ B EX p)) (hb : PE X b (tE R C Γ B EX q)) (hs : notSt a = true) (hs2 : notSt b = true) : PI X tg (.Call (.Name "range" p0) [a, b] [] pos) (tI R C Γ B EX (.rng2 p q)) :=
  imI (pi_range2 hg (k.bl "range" (by decide)) (pa_cons ha (pa_cons hb pa_nil (star_cons hs2)) (star_cons hs)) ((star_cons hs).trans (congrArg _ (star_cons hs2))) (star_cons hs2)) fun σ H K ⟨F, ρ, n, nb, x, P, h⟩ => by
  simp only [wI] at h
  simp only [cI] at P h
  refine ⟨F, ρ, n, nb, x, P.dn (by omega), wE_mono p (xid x) (fun r ρ1 h v H1 n1 s1 r1 => ?_) h⟩
  refine ⟨F, ρ1, n1, nb, x, P.go s1 (by omega), wE_mono q (xid x) (fun s ρ2 h u H2 n2 s2 r2 => ?_) h⟩
  obtain ⟨d, m1, h⟩ := (r1.keep s2).use s2.rl h
  obtain ⟨e, m2, i, j, rfl, rfl, hb, h⟩ := r2.use s2.rl h
  cases m1.int; cases m2.int
  exact ⟨i, j, rfl, hb, h _ [] H2 n2 (s1.trans s2) (fun p hp => nomatch hp) (walk_rng (by omega))⟩
theorem s_zip {p0 tpos : Pos} {elts : List Expr} {kk : Nat} (k : Ctx R C Γ B m ng EX N sc fb X) (hg : Gl X "zip") (ha : PE X a (tE R C Γ B EX p)) (hb : PE X b (tE R C Γ B EX q)) (hs : notSt a = true) (hs2 : notSt b = true) :
    PI X (.Tuple elts kk tpos) (.Call (.Name "zip" p0) [a, b] [] pos) (tI R C Γ B EX (.zip p q)) :=
  imI (DZ.pi_zip2 hg (k.bl "zip" (by decide)) (pa_cons ha (pa_cons hb pa_nil (star_cons hs2)) (star_cons hs)) (star_cons hs) (star_any (by show (notSt b && true) = true; rw [hs2]; rfl))) fun σ H K ⟨F, ρ, n, nb, x, P, h⟩ => by
  simp only [wI] at h
  simp only [cI] at P h
  refine ⟨F, ρ, n, nb, x, P.dn (by omega), wE_mono p (xid x) (fun r ρ1 h v H1 n1 s1 r1 => ?_) h⟩
  obtain ⟨d, ρ2, h, s2, m1⟩ := r1.esc s1.rl h
  refine ⟨F, ρ2, n1, nb, x, P.go (s1.trans s2) (by omega), wE_mono q (xid x) (fun s ρ3 h u H3 n3 s3 r3 => ?_) h⟩
  obtain ⟨e, ρ4, h, s4, m2⟩ := r3.esc s3.rl h
  obtain ⟨ds, es, e1, e2, h⟩ := h
  have s34 := s3.trans s4
  have m1' := m1.keep s34.sub s34.ext
  obtain ⟨v1, v2, rfl, rfl, ⟨xs, o1⟩, ⟨ys, o2⟩, w⟩ := walk_zip k.eK m1' e1 m2 e2
  refine ⟨v1, v2, xs, ys, rfl, o1, o2, h _ [(v1.v, d), (v2.v, e)] H3 n3 (((s1.trans s2).trans s34).up (by omega)) (fun p hp => ?_) w⟩
  rcases List.mem_cons.mp hp with rfl | hp
  · exact m1'
  · cases List.mem_singleton.mp hp; exact m2
theorem s_enm {p0 tpos : Pos} {elts : List Expr} {kk : Nat} (k : Ctx R C Γ B m ng EX N sc fb X) (hg : Gl X "enumerate") (ha : PE X a (tE R C Γ B EX p)) (hs : notSt a = true) :
    PI X (.Tuple elts kk tpos) (.Call (.Name "enumerate" p0) [a] [] pos) (tI R C Γ B EX (.enm p)) :=
  imI (pi_enum hg (k.bl "enumerate" (by decide)) (pa_cons ha pa_nil (star_cons hs)) (star_cons hs)) fun σ H K ⟨F, ρ, n, nb, x, P, h⟩ => by
  simp only [wI] at h
  simp only [cI] at P h
  show tE R C Γ B EX p σ H _
  refine s_one P (Nat.le_refl _) h fun r ρ1 v H1 n1 h s1 r1 => ?_
  obtain ⟨d, ρ2, ⟨ds, rfl, h⟩, s2, m1⟩ := r1.esc s1.rl h
  obtain ⟨a, xs, rfl, h1, l1, rr⟩ := m1.invL
  refine ⟨a, xs, rfl, SqL.of h1.2, h _ [(.ref a, .lst ds)] H1 n1 ((s1.trans s2).up (Nat.le_refl _)) (fun p hp => ?_) (walk_enm (by rw [← rr.length]; exact l1))⟩
  cases List.mem_singleton.mp hp
  exact m1
end
end DL

set_option Elab.async false
set_option linter.all false
set_option maxRecDepth 100000
set_option maxHeartbeats 4000000
namespace DL
open PySem L2
section
variable {R : RP} {C : XCl} {Γ : Gm} {B m ng : Nat} {EX : WX} {N : List Str} {sc : Scope} {fb : Str → Bool} {X : Cx} {F : FrD} {σ σ' : St} {ρ ρ' ρ1 : Rho} {H H' H1 : Hp} {n n' n1 c nb : Nat}
/-! ### the slots -/
/-- other values at the slots of which nothing is known -/
theorem Rl.sig (h : Rl R F ρ n σ H) (hs : ∀ (i : Nat) (p : Bool × D), ρ[i]? = some (some p) → σ'[i]? = σ[i]?) (hl : σ'.length = σ.length) : Rl R F ρ n σ' H ∧ ∀ a, MM F ρ σ' a ↔ MM F ρ σ a := by
  have eM : ∀ a, MM F ρ σ' a ↔ MM F ρ σ a := fun a => by
    constructor
    · rintro (z | ⟨i, d, e1, e2⟩)
      · exact .inl z
      · exact .inr ⟨i, d, e1, by rw [← hs i _ e1]; exact e2⟩
    · rintro (z | ⟨i, d, e1, e2⟩)
      · exact .inl z
      · exact .inr ⟨i, d, e1, by rw [hs i _ e1]; exact e2⟩
  refine ⟨⟨by rw [hl]; exact h.len, fun i d e => ?_, fun i d e => ?_, fun i j d e a e1 e2 e3 e4 => h.inj i j d e a e1 e2 (by rw [← hs i _ e1]; exact e3) (by rw [← hs j _ e2]; exact e4), h.ext, h.m0, h.md, h.dk, fun p hp => (h.gh p hp).keep (fun a z => (eM a).mp z) .refl⟩, eM⟩
  · obtain ⟨v, e1, r⟩ := h.pv i d e
    exact ⟨v, by rw [hs i _ e]; exact e1, r.keep (fun a z => (eM a).mp z) .refl⟩
  · obtain ⟨a, e1, w, z⟩ := h.ow i d e
    exact ⟨a, by rw [hs i _ e]; exact e1, w.keep (fun a z => (eM a).mp z) .refl (fun _ q => q), z⟩
/-- a slot's data is no longer told -/
theorem Rl.lose1 (h : Rl R F ρ n σ H) {i : Nat} (no : ∀ d, ρ[i]? ≠ some (some (true, d))) : Rl R F (ρ.set i none) n σ H ∧ ∀ a, MM F (ρ.set i none) σ a ↔ MM F ρ σ a := by
  obtain ⟨h1, h2⟩ := h.forget no
  have hs : ∀ (j : Nat) (p : Bool × D), (ρ.set i none)[j]? = some (some p) → σ[j]? = (σ.set i none)[j]? := fun j p e => by
    rcases set_get e with ⟨_, q⟩ | ⟨q, _⟩
    · cases q
    · rw [List.getElem?_set_ne q]
  obtain ⟨h3, h4⟩ := h1.sig hs (by simp)
  exact ⟨h3, fun a => (h4 a).trans (h2 a)⟩
theorem noOwn_at {vs : List Nat} (h : noOwn ρ vs = true) {i : Nat} (hi : i ∈ vs) : ∀ d, ρ[i]? ≠ some (some (true, d)) := fun d e => by
  have := List.all_eq_true.mp h i hi
  simp only [e] at this
  cases this
theorem wipe_get : ∀ (vs : List Nat) {i : Nat}, i ∉ vs → (wipeR ρ vs)[i]? = ρ[i]?
  | [], _, _ => rfl
  | v :: vs, i, h => by
    have h1 : v ≠ i := fun z => h (by rw [z]; exact List.mem_cons_self)
    unfold wipeR
    rw [List.getElem?_set_ne h1]
    exact wipe_get vs fun z => h (List.mem_cons_of_mem _ z)
theorem wipe_in : ∀ (vs : List Nat) {i : Nat} {p : Bool × D}, i ∈ vs → (wipeR ρ vs)[i]? ≠ some (some p)
  | v :: vs, i, p, h => fun e => by
    unfold wipeR at e
    rcases set_get e with ⟨_, q⟩ | ⟨q, e⟩
    · cases q
    · rcases List.mem_cons.mp h with z | z
      · exact q z.symm
      · exact wipe_in vs z e
theorem wipeR_len : ∀ vs : List Nat, (wipeR ρ vs).length = ρ.length
  | [] => rfl
  | v :: vs => by unfold wipeR; rw [List.length_set, wipeR_len vs]
theorem wipeS_get : ∀ (vs : List Nat) {i : Nat}, i ∉ vs → (wipe σ vs)[i]? = σ[i]?
  | [], _, _ => rfl
  | v :: vs, i, h => by
    have h1 : v ≠ i := fun z => h (by rw [z]; exact List.mem_cons_self)
    unfold wipe
    rw [List.getElem?_set_ne h1]
    exact wipeS_get vs fun z => h (List.mem_cons_of_mem _ z)
theorem Rl.wipe1 : ∀ (vs : List Nat) {ρ : Rho}, Rl R F ρ n σ H → noOwn ρ vs = true → Rl R F (wipeR ρ vs) n σ H ∧ ∀ a, MM F (wipeR ρ vs) σ a ↔ MM F ρ σ a
  | [], ρ, h, _ => ⟨h, fun _ => Iff.rfl⟩
  | v :: vs, ρ, h, no => by
    have q := Bool.and_eq_true_iff.mp (show (_ && noOwn ρ vs) = true from no)
    obtain ⟨h1, e1⟩ := Rl.wipe1 vs h q.2
    have nv : ∀ d, (wipeR ρ vs)[v]? ≠ some (some (true, d)) := fun d e => by
      by_cases hv : v ∈ vs
      · exact wipe_in vs hv e
      · rw [wipe_get vs hv] at e
        exact noOwn_at no List.mem_cons_self d e
    obtain ⟨h2, e2⟩ := h1.lose1 nv
    exact ⟨h2, fun a => (e2 a).trans (e1 a)⟩
/-- the state where a block starts -/
theorem Rl.block (h : Rl R F ρ n σ H) {vs : List Nat} (no : noOwn ρ vs = true) : Rl R F (wipeR ρ vs) n (wipe σ vs) H ∧ ∀ a, MM F (wipeR ρ vs) (wipe σ vs) a ↔ MM F ρ σ a := by
  obtain ⟨h1, e1⟩ := Rl.wipe1 vs h no
  obtain ⟨h2, e2⟩ := h1.sig (σ' := wipe σ vs) (fun i p e => wipeS_get vs fun hi => wipe_in vs hi e) (wipe_length σ vs)
  exact ⟨h2, fun a => (e2 a).trans (e1 a)⟩

/-! ### targets -/
mutual
def G.sl : G → List Nat
  | .nm i => [i]
  | .tp gs => G.sls gs
def G.sls : List G → List Nat
  | [] => []
  | g :: gs => g.sl ++ G.sls gs
end
structure GInf (sl : List Nat) (ρ ρ' : Rho) : Prop where
  len : ρ'.length = ρ.length
  out : ∀ i : Nat, i ∉ sl → ρ'[i]? = ρ[i]?
  own : ∀ (i : Nat) (d : D), ρ'[i]? = some (some (true, d)) → ρ[i]? = some (some (true, d))
mutual
theorem setG_inf : ∀ (g : G) {d : D} {ρ : Rho} {k : Rho → Prop}, setG g d ρ k → setG g d ρ fun ρ' => k ρ' ∧ GInf g.sl ρ ρ'
  | .nm i, d, ρ, k, h => by
    simp only [setG] at h ⊢
    refine ⟨h, by simp, fun j hj => List.getElem?_set_ne (fun z => hj (by simp [G.sl, z])), fun j d' e => ?_⟩
    rcases set_get e with ⟨_, q⟩ | ⟨_, e⟩
    · cases q
    · exact e
  | .tp gs, d, ρ, k, h => by
    cases d <;> simp only [setG] at h ⊢ <;> first | exact h | exact ⟨h.1, setGs_inf gs h.2⟩
theorem setGs_inf : ∀ (gs : List G) {ds : List D} {ρ : Rho} {k : Rho → Prop}, setGs gs ds ρ k → setGs gs ds ρ fun ρ' => k ρ' ∧ GInf (G.sls gs) ρ ρ'
  | [], ds, ρ, k, h => by simp only [setGs] at h ⊢; exact ⟨h, rfl, fun _ _ => rfl, fun _ _ e => e⟩
  | g :: gs, ds, ρ, k, h => by
    cases ds with
    | nil => simp only [setGs] at h
    | cons d ds =>
      simp only [setGs] at h ⊢
      refine setG_mono g (fun ρ1 ⟨h1, i1⟩ => setGs_mono gs (fun ρ2 ⟨h2, i2⟩ => ⟨h2, i2.len.trans i1.len, fun i hi => ?_, fun i d e => i1.own i d (i2.own i d e)⟩) (setGs_inf gs h1)) (setG_inf g h)
      have hi' : i ∉ g.sl ∧ i ∉ G.sls gs := by simpa [G.sls] using hi
      exact (i2.out i hi'.2).trans (i1.out i hi'.1)
end
/-- what holds behind a store -/
structure StG (R : RP) (F : FrD) (sl : List Nat) (ρ : Rho) (σ : St) (H : Hp) (n : Nat) (ρ' : Rho) (σ' : St) : Prop where
  rl : Rl R F ρ' n σ' H
  sub : ∀ a, MM F ρ' σ' a → MM F ρ σ a
  out : ∀ i : Nat, i ∉ sl → σ'[i]? = σ[i]?
  len : σ'.length = σ.length
def tG (R : RP) (g : G) : TG := fun v σ H Q => ∃ F ρ n d, Rl R F ρ n σ H ∧ Rep R (MM F ρ σ) H v d ∧ setG g d ρ fun ρ' => ∀ σ', StG R F g.sl ρ σ H n ρ' σ' → Q σ' H
def tGs (R : RP) (gs : List G) : TGs := fun vs σ H Q => ∃ F ρ n ds, Rl R F ρ n σ H ∧ RepAll R (MM F ρ σ) H vs ds ∧ gs.length = ds.length ∧ setGs gs ds ρ fun ρ' => ∀ σ', StG R F (G.sls gs) ρ σ H n ρ' σ' → Q σ' H
theorem store_sub {i : Nat} {d : D} {v : V} {b : Addr} (m : MM F (ρ.set i (some (false, d))) (σ.set i (some v)) b) : MM F ρ σ b := by
  rcases m with m | ⟨j, y, e1, e2⟩
  · exact .inl m
  · rcases set_get e1 with ⟨_, q⟩ | ⟨q, e1⟩
    · cases q
    · rw [List.getElem?_set_ne q] at e2
      exact .inr ⟨j, y, e1, e2⟩
theorem imG {tg : Expr} {t t' : TG} (h : PG X tg t) (k : ∀ v σ H Q, t' v σ H Q → t v σ H Q) : PG X tg t' := ⟨fun pins s σ H v u Q I r q => h.run pins s σ H v u Q I r (k v σ H Q q)⟩
theorem imGs {tg : List Expr} {t t' : TGs} (h : PGs X tg t) (k : ∀ v σ H Q, t' v σ H Q → t v σ H Q) : PGs X tg t' := ⟨fun pins s σ H v u Q I r q => h.run pins s σ H v u Q I r (k v σ H Q q)⟩
theorem pg_or {tg : Expr} {t t' : TG} (h : PG X tg t) (h' : PG X tg t') : PG X tg (fun v σ H Q => t v σ H Q ∨ t' v σ H Q) := ⟨fun pins s σ H v u Q I r q => q.elim (h.run pins s σ H v u Q I r) (h'.run pins s σ H v u Q I r)⟩
def tgtB (sc : Scope) (fb : Str → Bool) (x : Str) : Bool := decide (sc.names.lookup x = some .local) || (decide (sc.names.lookup x = some .cell) && fb x)
mutual
def chkG (N : List Str) (sc : Scope) (fb : Str → Bool) : G → Expr → Bool
  | .nm i, a => match a with
    | .Name x _ => decide (N[i]? = some x) && tgtB sc fb x
    | _ => false
  | .tp gs, a => match a with
    | .Tuple es _ _ => noStar es && chkGs N sc fb gs es
    | _ => false
def chkGs (N : List Str) (sc : Scope) (fb : Str → Bool) : List G → List Expr → Bool
  | [], es => es.isEmpty
  | g :: gs, es => match es with
    | [] => false
    | e :: es => chkG N sc fb g e && chkGs N sc fb gs es
end
theorem as_cons {a : Expr} {es : List Expr} {env : Env} (h : notSt a = true) : assignEach (a :: es) env = (false, assign a env) :: assignEach es env := by
  cases a <;> first | rfl | cases h
theorem as_len {env : Env} : ∀ {es : List Expr}, noStar es = true → (assignEach es env).length = es.length
  | [], _ => rfl
  | a :: es, h => by
    have q := Bool.and_eq_true_iff.mp (show (notSt a && es.all notSt) = true from h)
    rw [as_cons q.1, List.length_cons, List.length_cons, as_len (es := es) q.2]
theorem as_idx {env : Env} : ∀ {es : List Expr}, noStar es = true → (assignEach es env).findIdx? (·.1) = none
  | [], _ => rfl
  | a :: es, h => by
    have q := Bool.and_eq_true_iff.mp (show (notSt a && es.all notSt) = true from h)
    rw [as_cons q.1, List.findIdx?_cons]
    simp [as_idx (es := es) q.2]
theorem chkGs_len : ∀ {gs : List G} {es : List Expr}, chkGs N sc fb gs es = true → es.length = gs.length
  | [], [], _ => rfl
  | [], _ :: _, h => by simp [chkGs] at h
  | _ :: _, [], h => by simp [chkGs] at h
  | g :: gs, e :: es, h => by
    simp only [chkGs, Bool.and_eq_true] at h
    simp [chkGs_len h.2]
mutual
theorem s_tg (k : Ctx R C Γ B m ng EX N sc fb X) : ∀ (g : G) {a : Expr}, chkG N sc fb g a = true → PG X a (tG R g)
  | .nm i, a, h => by
    simp only [chkG] at h
    split at h
    · rename_i x p
      obtain ⟨h1, h2⟩ := Bool.and_eq_true_iff.mp h
      have h1 := of_decide_eq_true h1
      have hx : (X.env.scope.names.lookup x = some .local) ∨ (X.env.scope.names.lookup x = some .cell ∧ X.fn x = true) := by
        rw [k.esc]
        rcases Bool.or_eq_true_iff.mp h2 with z | z
        · exact .inl (of_decide_eq_true z)
        · obtain ⟨z1, z2⟩ := Bool.and_eq_true_iff.mp z
          exact .inr ⟨of_decide_eq_true z1, k.fnc x z2⟩
      refine imG (pg_name (k.eN ▸ k.nd) (k.eN ▸ h1) (hx.imp id (·.1)) (hx.elim .inr fun z => .inl z.2)) fun v σ H Q ⟨F, ρ, n, d, rl, r, q⟩ => ?_
      simp only [setG] at q
      exact q _ ⟨rl.store r, fun a m => store_sub m, fun j hj => List.getElem?_set_ne (fun z => hj (by simp [G.sl, z])), by simp⟩
    · cases h
  | .tp gs, a, h => by
    simp only [chkG] at h
    split at h
    · rename_i es kk p
      obtain ⟨h1, h2⟩ := Bool.and_eq_true_iff.mp h
      have p1 : PG X (.Tuple es kk p) _ := pg_tup (n := gs.length) k.calm (s_tgs k gs h2 h1) (by rw [as_len h1, chkGs_len h2]) (as_idx h1)
      have p2 : PG X (.Tuple es kk p) _ := pg_unl (n := gs.length) k.calm (s_tgs k gs h2 h1) (by rw [as_len h1, chkGs_len h2]) (as_idx h1)
      refine imG (pg_or p1 p2) fun v σ H Q ⟨F, ρ, n, d, rl, r, q⟩ => ?_
      cases d with
      | lst ds =>
        obtain ⟨ql, q⟩ := q
        obtain ⟨a, xs, rfl, ht, hl, rr⟩ := r.invL
        exact .inr ⟨a, xs, rfl, k.eK ▸ ht.sq, by rw [rr.length, ql], F, ρ, n, ds, rl, rr, ql, q⟩
      | tup ds =>
        obtain ⟨ql, q⟩ := q
        obtain ⟨a, xs, rfl, ht, hl, rr⟩ := r.invT
        exact .inl ⟨a, xs, rfl, k.eK ▸ ht.sq, by rw [rr.length, ql], F, ρ, n, ds, rl, rr, ql, q⟩
      | _ => simp only [setG] at q
    · cases h
theorem s_tgs (k : Ctx R C Γ B m ng EX N sc fb X) : ∀ (gs : List G) {es : List Expr}, chkGs N sc fb gs es = true → noStar es = true → PGs X es (tGs R gs)
  | [], es, h, _ => by
    cases es with
    | nil =>
      refine imGs pgs_nil fun vs σ H Q ⟨F, ρ, n, ds, rl, r, hl, q⟩ => ?_
      cases ds with
      | nil =>
        cases r
        simp only [setGs] at q
        exact ⟨rfl, q σ ⟨rl, fun _ m => m, fun _ _ => rfl, rfl⟩⟩
      | cons => cases hl
    | cons => simp [chkGs] at h
  | g :: gs, es, h, hs => by
    cases es with
    | nil => simp [chkGs] at h
    | cons e es =>
      simp only [chkGs, Bool.and_eq_true] at h
      have hs' := Bool.and_eq_true_iff.mp (show (notSt e && es.all notSt) = true from hs)
      refine imGs (pgs_cons (s_tg k g h.1) (s_tgs k gs h.2 hs'.2) (by rw [as_cons hs'.1]; rfl)) fun vs σ H Q ⟨F, ρ, n, ds, rl, r, hl, q⟩ => ?_
      cases r with
      | nil => cases hl
      | cons r rr =>
        simp only [setGs] at q
        refine ⟨_, _, rfl, F, ρ, n, _, rl, r, setG_mono g (fun ρ1 q σ1 s1 => ?_) q⟩
        refine ⟨F, ρ1, n, _, s1.rl, rr.keep s1.sub .refl, by simpa using hl, setGs_mono gs (fun ρ2 q σ2 s2 => q σ2 ⟨s2.rl, fun a m => s1.sub a (s2.sub a m), fun i hi => ?_, s2.len.trans s1.len⟩) q⟩
        have hi' : i ∉ g.sl ∧ i ∉ G.sls gs := by simpa [G.sls] using hi
        exact (s2.out i hi'.2).trans (s1.out i hi'.1)
end
end
end DL

set_option Elab.async false
set_option linter.all false
set_option maxRecDepth 100000
set_option maxHeartbeats 4000000
namespace DL
open PySem L2
def FrD.more (F : FrD) (gh : List (V × D)) : FrD := ⟨F.M0, F.H0, gh ++ F.gh⟩
section
variable {R : RP} {C : XCl} {Γ : Gm} {B m ng : Nat} {EX : WX} {N : List Str} {sc : Scope} {fb : Str → Bool} {X : Cx} {F : FrD} {σ σ' : St} {ρ ρ' ρ1 : Rho} {H H' H1 : Hp} {n n' n1 c nb : Nat}
variable {tg a b e1 e : Expr} {es : List Expr} {p q r elt cond : E} {ps qs : Es} {pos : Pos} {Q : VK} {g : G} {it : I} {own : List (Str × Nat)}
theorem Rl.more (h : Rl R F ρ n σ H) {gh : List (V × D)} (r : ∀ p ∈ gh, Rep R (MM F ρ σ) H p.1 p.2) : Rl R (F.more gh) ρ n σ H :=
  ⟨h.len, h.pv, h.ow, h.inj, h.ext, h.m0, h.md, h.dk, fun p hp => (List.mem_append.mp hp).elim (r p) (h.gh p)⟩
theorem Rl.less {gh : List (V × D)} (h : Rl R (F.more gh) ρ n σ H) : Rl R F ρ n σ H :=
  ⟨h.len, h.pv, h.ow, h.inj, h.ext, h.m0, h.md, h.dk, fun p hp => h.gh p (List.mem_append_right _ hp)⟩
theorem wipeS_in : ∀ (vs : List Nat) {σ : St} {i : Nat}, i ∈ vs → i < σ.length → (wipe σ vs)[i]? = some none
  | v :: vs, σ, i, h, hl => by
    unfold wipe
    by_cases q : v = i
    · subst q
      rw [List.getElem?_set_self (by rw [wipe_length]; exact hl)]
    · rw [List.getElem?_set_ne q]
      exact wipeS_in vs ((List.mem_cons.mp h).elim (fun z => absurd z.symm q) id) hl
theorem wipe_eq {vs : List Nat} {σ2 : St} (hl : σ2.length = σ.length) (h : ∀ j : Nat, j ∉ vs → σ2[j]? = σ[j]?) : wipe σ2 vs = wipe σ vs := by
  apply List.ext_getElem?
  intro j
  by_cases hj : j ∈ vs
  · by_cases q : j < σ.length
    · rw [wipeS_in vs hj (by rw [hl]; exact q), wipeS_in vs hj q]
    · rw [List.getElem?_eq_none (by rw [wipe_length, hl]; omega), List.getElem?_eq_none (by rw [wipe_length]; omega)]
  · rw [wipeS_get vs hj, wipeS_get vs hj, h j hj]
theorem wipeR_in : ∀ (vs : List Nat) {ρ : Rho} {i : Nat}, i ∈ vs → i < ρ.length → (wipeR ρ vs)[i]? = some none
  | v :: vs, ρ, i, h, hl => by
    unfold wipeR
    by_cases q : v = i
    · subst q
      rw [List.getElem?_set_self (by rw [wipeR_len]; exact hl)]
    · rw [List.getElem?_set_ne q]
      exact wipeR_in vs ((List.mem_cons.mp h).elim (fun z => absurd z.symm q) id) hl
theorem wipeR_eq {vs : List Nat} {ρ2 : Rho} (hl : ρ2.length = ρ.length) (h : ∀ j : Nat, j ∉ vs → ρ2[j]? = ρ[j]?) : wipeR ρ2 vs = wipeR ρ vs := by
  apply List.ext_getElem?
  intro j
  by_cases hj : j ∈ vs
  · by_cases q : j < ρ.length
    · rw [wipeR_in vs hj (by rw [hl]; exact q), wipeR_in vs hj q]
    · rw [List.getElem?_eq_none (by rw [wipeR_len, hl]; omega), List.getElem?_eq_none (by rw [wipeR_len]; omega)]
  · rw [wipe_get vs hj, wipe_get vs hj, h j hj]
abbrev NoE : WX := fun _ _ _ _ => False
theorem lc_gen {x : Xr} {Qr : Rv → Rho → Prop} (hsl : ∀ i ∈ g.sl, i ∈ own.map (·.2)) (P : Pre R C B EX F σ ρ H n (cE Γ (.lc elt g it cond own)) nb x) (h : wE Γ x (.lc elt g it cond own) ρ Qr)
    (hfin : ∀ acc accV Dp H' n' ρ', Qr (.pr (.lst acc)) ρ' → Rl R (F.add Dp (.lst accV)) ρ' n' σ H' → F.H0 Dp = none → (Dp ≠ R.dd ∧ Dp ≠ R.dl) → (∀ a, MM F ρ' σ a → MM F ρ σ a) → ExtM (MM F ρ σ) H H' → ¬ MM F ρ' σ Dp →
      RepAll R (MM (F.add Dp (.lst accV)) ρ' σ) H' accV acc → accV.length ≤ sizeLine → n' ≤ n + cE Γ (.lc elt g it cond own) → (∀ a, F.M0 a → ∃ u, F.H0 a = some u) → Q (.ref Dp) H') :
    tLc (tI R C Γ B EX it) (tG R g) (tT R C Γ B NoE cond) (tE R C Γ B NoE elt) (own.map (·.2)) σ H Q := by
  simp only [wE] at h
  simp only [cE] at P hfin
  generalize hvs : own.map (·.2) = vs at h hsl ⊢
  generalize hcb : cE Γ cond + cE Γ elt = cb at P hfin
  refine ⟨F, ρ, n, nb, x, P.dn (Nat.le_add_right _ _), wI_mono it (xid x) (fun ds ρ1 h J gh H1 n1 s1 hgh w Dp hDp => ?_) h⟩
  obtain ⟨no, W, w0, step, fin⟩ := h
  obtain ⟨rb, eb⟩ := (s1.rl.more hgh).block no
  have f0 := rb.free0 hDp
  have ne := rb.ow_ne f0
  have m0 := rb.m0
  generalize hρw : wipeR ρ1 vs = ρw at rb eb step fin
  generalize hσw : wipe σ vs = σw at rb eb
  have ra := rb.add (o := .lst []) hDp
  have bnd : ∀ i, i < ds.length → n1 + i * cb + cb ≤ nb := fun i hi => by
    have h1 : i * cb + cb ≤ 2 ^ 63 * cb := by
      rw [← Nat.succ_mul]
      exact Nat.mul_le_mul_right _ (Nat.le_trans hi w.len)
    have := P.le; have := s1.le; omega
  have eMa : ∀ {o o' : HO} {a}, MM ((F.more gh).add Dp o) ρw σw a → MM ((F.more gh).add Dp o') ρw σw a := fun {o o' a} z => MM.add.mpr (MM.add.mp z)
  refine ⟨fun i mm H => mm = ds.length - i ∧ i ≤ ds.length ∧ ∃ accV acc n', Rl R ((F.more gh).add Dp (.lst accV)) ρw n' σw H ∧ n' ≤ n1 + i * cb ∧ RepAll R (MM ((F.more gh).add Dp (.lst accV)) ρw σw) H accV acc ∧ accV.length ≤ sizeLine ∧ ExtM (MM F ρ1 σ) H1 H ∧ W i acc,
    ⟨ds.length, by simp, Nat.zero_le _, [], [], n1, ra, by simp, .nil, Nat.zero_le _, .alloc hDp, w0⟩, ?_⟩
  rintro i mm H ⟨rfl, hi, accV, acc, n', rl, hn, rep, hz, ext, hW⟩
  have gh' : ∀ p ∈ gh, Rep R (MM ((F.more gh).add Dp (.lst accV)) ρw σw) H p.1 p.2 := fun p hp => rl.gh p (List.mem_append_left _ hp)
  by_cases hlt : i < ds.length
  · right
    have hd : ds[i]? = some ds[i] := List.getElem?_eq_getElem hlt
    obtain ⟨go, yl⟩ := w.go i _ H ds[i] gh' hd rl.fm
    refine ⟨go, fun H => ∃ accV acc n', Rl R ((F.more gh).add Dp (.lst accV)) ρw n' σw H ∧ n' ≤ n1 + (i + 1) * cb ∧ RepAll R (MM ((F.more gh).add Dp (.lst accV)) ρw σw) H accV acc ∧ accV.length ≤ sizeLine ∧ ExtM (MM F ρ1 σ) H1 H ∧ W (i + 1) acc,
      fun H' ⟨aV, ac, k', q⟩ => ⟨ds.length - (i + 1), by omega, rfl, hlt, aV, ac, k', q⟩, fun xv H' y => ?_⟩
    obtain ⟨sm, rx⟩ := yl xv H' y
    have rl' := rl.same sm
    refine ⟨_, ρw, n', ds[i], rl', rx, setG_mono g (fun ρ2 ⟨h2, gi⟩ σ2 st => ?_) (setG_inf g (step i ds[i] acc hd hW))⟩
    have eσ : wipe σ2 vs = σw := by
      rw [← hσw]
      refine wipe_eq (by rw [st.len, ← hσw, wipe_length]) fun j hj => ?_
      rw [st.out j fun z => hj (hsl j z), ← hσw, wipeS_get vs hj]
    have eρ : wipeR ρ2 vs = ρw := by
      rw [← hρw]
      refine wipeR_eq (by rw [gi.len, ← hρw, wipeR_len]) fun j hj => ?_
      rw [gi.out j fun z => hj (hsl j z), ← hρw, wipe_get vs hj]
    have no2 : noOwn ρ2 vs = true := List.all_eq_true.mpr fun v hv => by
      cases q : ρ2[v]? with
      | none => rfl
      | some o =>
        cases o with
        | none => rfl
        | some pr =>
          obtain ⟨b, d⟩ := pr
          cases b with
          | false => rfl
          | true =>
            have q2 := gi.own v d q
            rw [← hρw] at q2
            exact absurd q2 (wipe_in vs hv)
    have back : ∀ {k : Nat} {K : Hp}, Rl R ((F.more gh).add Dp (.lst accV)) ρ2 k σ2 K → Rl R ((F.more gh).add Dp (.lst accV)) ρw k σw K ∧ ∀ a, MM ((F.more gh).add Dp (.lst accV)) ρw σw a ↔ MM ((F.more gh).add Dp (.lst accV)) ρ2 σ2 a := fun {k K} r => by
      have z := r.block no2
      rw [eρ, eσ] at z
      exact z
    have eM2 := (back st.rl).2
    have grow : ∀ {K : Hp}, ExtM (MM ((F.more gh).add Dp (.lst accV)) ρ2 σ2) H' K → ExtM (MM ((F.more gh).add Dp (.lst accV)) ρw σw) H K := fun {K} e a o nm q => e a o (fun z => nm ((eM2 a).mpr z)) (sm a o q)
    have out : ∀ {K : Hp}, ExtM (MM ((F.more gh).add Dp (.lst accV)) ρw σw) H K → ExtM (MM F ρ1 σ) H1 K := fun {K} e a o nm q => e a o (fun z => (MM.add.mp z).elim (fun z => nm ((eb a).mp z)) fun z => by rw [z, hDp] at q; cases q) (ext a o nm q)
    refine ⟨eσ.trans rfl, (F.more gh).add Dp (.lst accV), ρ2, n', n1 + i * cb + cb, noX, ⟨st.rl, by omega, Nat.le_trans (bnd i hlt) P.B, xok_none⟩, wT_mono cond (xid _) (fun b ρ3 h3 H3 n3 s3 => ?_) h2⟩
    obtain ⟨rfl, h3⟩ := h3
    dsimp only
    split
    · rename_i hb
      rw [if_pos hb] at h3
      refine ⟨_, ρ3, n3, n1 + i * cb + cb, noX, ⟨s3.rl, by have := s3.le; omega, Nat.le_trans (bnd i hlt) P.B, xok_none⟩, wE_mono elt (xid _) (fun r ρ4 h4 yv H4 n4 s4 r4 => ?_) h3.2⟩
      obtain ⟨z, ρ5, ⟨rfl, h5⟩, s5, r5⟩ := r4.esc s4.rl h4
      have s45 := s4.trans s5
      have hD4 : H4 Dp = some (.lst accV) := s5.rl.addH f0 ne.1 ne.2
      have hz' : accV.length < sizeLine := by rw [rep.length]; exact h3.1
      have gr := grow (s3.ext.trans s45.ext s3.sub)
      have hw : ExtM (MM ((F.more gh).add Dp (.lst accV)) ρw σw) H4 (upd H4 Dp (.lst (accV ++ [yv]))) := ext_own (MM.add.mpr (.inr rfl))
      refine ⟨accV, hD4, hz', accV ++ [yv], acc ++ [z], n4, (back s5.rl).1.readd ne.1 ne.2, ?_, ?_, by rw [List.length_append]; exact hz', out (gr.trans hw fun _ z => z), h5⟩
      · rw [Nat.succ_mul]
        have := s3.le; have := s45.le; omega
      · refine RepAll.append ?_ (.cons ?_ .nil)
        · exact (rep.keep (fun _ z => z) gr).keep (fun _ z => eMa z) hw
        · exact (r5.keep (fun a z => (eM2 a).mp (eMa z)) .refl).keep (fun _ z => z) (ext_own (eMa (o := .lst accV) (MM.add.mpr (.inr rfl))))
    · rename_i hb
      rw [if_neg hb] at h3
      refine ⟨accV, acc, n3, (back s3.rl).1, ?_, rep.keep (fun _ z => z) (grow s3.ext), hz, out (grow s3.ext), h3⟩
      rw [Nat.succ_mul]
      have := s3.le; omega
  · left
    have ei : i = ds.length := by omega
    subst ei
    refine ⟨w.stop _ _ H gh' (Nat.le_refl _), ?_⟩
    obtain ⟨rl3, e3⟩ := rl.sig (σ' := σ) (fun i p e => by
      rw [← hσw, wipeS_get vs fun hv => by rw [← hρw] at e; exact wipe_in vs hv e]) (by rw [← hσw, wipe_length])
    have e4 : ∀ a, MM F ρw σ a ↔ MM F ρ1 σ a := fun a => by
      have z : MM F ρw σw a ↔ MM F ρ1 σ a := eb a
      refine Iff.trans ?_ z
      constructor
      · intro q
        rcases MM.add.mp ((e3 a).mp (MM.add.mpr (.inl q))) with w | w
        · exact w
        · exfalso
          rcases q with q | ⟨k, d, q1, q2⟩
          · obtain ⟨o, e⟩ := m0 a q
            rw [w, f0] at e; cases e
          · obtain ⟨a', q3, _, q4⟩ := rl3.ow k d q1
            rw [q2] at q3; cases q3
            have q4 : upd F.H0 Dp (.lst accV) a = none := q4
            rw [w, upd_same] at q4; cases q4
      · intro q
        rcases MM.add.mp ((e3 a).mpr (MM.add.mpr (.inl q))) with w | w
        · exact w
        · exfalso
          have z2 : MM F ρ1 σ Dp := (eb Dp).mp (w ▸ q)
          obtain ⟨o, q⟩ := s1.rl.there z2
          rw [hDp] at q; cases q
    have np : ¬ MM F ρw σ Dp := fun z => by
      obtain ⟨o, q⟩ := s1.rl.there ((e4 Dp).mp z)
      rw [hDp] at q; cases q
    refine hfin acc accV Dp H n' ρw (fin acc hW) (Rl.less (F := F.add Dp (.lst accV)) (gh := gh) rl3) f0 ne (fun a z => s1.sub a ((e4 a).mp z)) (s1.ext.trans ext s1.sub) np (rep.keep (fun a z => (e3 a).mp z) .refl) hz ?_ m0
    have h1 : ds.length * cb ≤ 2 ^ 63 * cb := Nat.mul_le_mul_right _ w.len
    have := s1.le; omega
theorem lc_read (hsl : ∀ i ∈ g.sl, i ∈ own.map (·.2)) (h : tE R C Γ B EX (.lc elt g it cond own) σ H Q) :
    tLc (tI R C Γ B EX it) (tG R g) (tT R C Γ B NoE cond) (tE R C Γ B NoE elt) (own.map (·.2)) σ H Q := by
  obtain ⟨F, ρ, n, nb, x, P, h⟩ := h
  refine lc_gen hsl P h fun acc accV Dp H' n' ρ' hq rl f0 ne sub ext np rep hz hn m0 => ?_
  have hD : H' Dp = some (.lst accV) := rl.addH f0 ne.1 ne.2
  exact hq _ _ n' ⟨rl.unadd f0 m0 ne.1 ne.2, hn, sub, ext⟩ (.lst ⟨np, hD⟩ hz (rep.keep (fun a z => MM.add.mpr (.inl z)) .refl))
/-- a new thing that nobody else holds -/
def tO (R : RP) (C : XCl) (Γ : Gm) (B : Nat) (EX : WX) (e : E) : TE := fun σ H Q => ∃ F ρ n nb x, Pre R C B EX F σ ρ H n (cE Γ e) nb x ∧ wE Γ x e ρ fun r ρ' => ∃ d, r = .pr d ∧ ∀ p o H' n', Rl R (F.add p o) ρ' n' σ H' → F.H0 p = none → (p ≠ R.dd ∧ p ≠ R.dl) → (∀ a, F.M0 a → ∃ u, F.H0 a = some u) → OwnAt R (MM (F.add p o) ρ' σ) H' p d → n' ≤ n + cE Γ e → Q (.ref p) H'
theorem lc_own (hsl : ∀ i ∈ g.sl, i ∈ own.map (·.2)) (h : tO R C Γ B EX (.lc elt g it cond own) σ H Q) :
    tLc (tI R C Γ B EX it) (tG R g) (tT R C Γ B NoE cond) (tE R C Γ B NoE elt) (own.map (·.2)) σ H Q := by
  obtain ⟨F, ρ, n, nb, x, P, h⟩ := h
  refine lc_gen hsl P h fun acc accV Dp H' n' ρ' hq rl f0 ne sub ext np rep hz hn m0 => ?_
  obtain ⟨d, e, hq⟩ := hq
  cases e
  exact hq Dp _ H' n' rl f0 ne m0 (.lst (rl.addH f0 ne.1 ne.2) hz rep) hn
/-- [e, ..] as a thing of one's own -/
theorem o_lst (h : PA X es (tEs R C Γ B EX ps)) : PE X (.List es pos) (tO R C Γ B EX (.lst ps)) := imE (pe_lst h) fun σ H Q ⟨F, ρ, n, nb, x, P, h⟩ => by
  simp only [wE] at h
  refine ⟨F, ρ, n, nb, x, P, wEs_mono ps (xid x) (fun ds ρ1 h vs H1 n1 s1 r1 => ?_) h⟩
  obtain ⟨hz, d, e, h⟩ := h
  cases e
  have hz : vs.length ≤ sizeLine := by rw [r1.length]; exact hz
  refine ⟨hz, fun p hp => ?_⟩
  have f0 := s1.rl.free0 hp
  exact h p _ _ n1 (s1.rl.add hp) f0 (s1.rl.ow_ne f0) s1.rl.m0 (.lst upd_same hz ((r1.bar hp).keep (fun a z => MM.add.mp z) (.alloc hp))) s1.le
theorem o_dct0 : PE X (.Dict [] [] pos) (tO R C Γ B EX .dct0) := imE pe_dnewK fun σ H Q ⟨F, ρ, n, nb, x, P, h⟩ p hp => by
  simp only [wE] at h
  obtain ⟨d, e, h⟩ := h
  cases e
  have f0 := P.rl.free0 hp
  exact h p _ _ n (P.rl.add hp) f0 (P.rl.ow_ne f0) P.rl.m0 (.dct upd_same (Nat.zero_le _) .nil .nil) (Nat.le_add_right _ _)
end
end DL

set_option Elab.async false
set_option linter.all false
set_option maxRecDepth 100000
set_option maxHeartbeats 4000000
/-! Comprehensions of two clauses. -/
namespace DL
open PySem L2
section
variable {R : RP} {C : XCl} {Γ : Gm} {B m ng : Nat} {EX : WX} {N : List Str} {sc : Scope} {fb : Str → Bool} {X : Cx} {F : FrD} {σ σ' : St} {ρ ρ' ρ1 : Rho} {H H' H1 : Hp} {n n' n1 c nb : Nat}
variable {tg a b e1 e : Expr} {es : List Expr} {p q r elt cond cond1 : E} {ps qs : Es} {pos : Pos} {Q : VK} {g g1 : G} {it it1 : I} {own : List (Str × Nat)} {ow1 : List Nat}
/-- behind a store into a block's names -/
theorem blk_back {sl vs : List Nat} {ρw ρ2 : Rho} {σw σ2 : St} (sub : ∀ i ∈ sl, i ∈ vs) (sl1 : σ2.length = σw.length) (so : ∀ i : Nat, i ∉ sl → σ2[i]? = σw[i]?) (gi : GInf sl ρw ρ2) (hρ : wipeR ρw vs = ρw) (hσ : wipe σw vs = σw) :
    wipe σ2 vs = σw ∧ wipeR ρ2 vs = ρw ∧ noOwn ρ2 vs = true := by
  refine ⟨(wipe_eq sl1 fun j hj => so j fun z => hj (sub j z)).trans hσ, (wipeR_eq gi.len fun j hj => gi.out j fun z => hj (sub j z)).trans hρ, List.all_eq_true.mpr fun v hv => ?_⟩
  cases q : ρ2[v]? with
  | none => rfl
  | some o =>
    cases o with
    | none => rfl
    | some pr =>
      obtain ⟨b, d⟩ := pr
      cases b with
      | false => rfl
      | true =>
        have q2 := gi.own v d q
        rw [← hρ] at q2
        exact absurd q2 (wipe_in vs hv)
theorem noOwn_sub {vs ws : List Nat} (sub : ∀ i ∈ ws, i ∈ vs) (h : noOwn ρ vs = true) : noOwn ρ ws = true := List.all_eq_true.mpr fun v hv => List.all_eq_true.mp h v (sub v hv)
theorem wipeR_idem {vs : List Nat} : wipeR (wipeR ρ vs) vs = wipeR ρ vs := wipeR_eq (wipeR_len vs) fun j hj => wipe_get vs hj
theorem wipe_idem {vs : List Nat} : wipe (wipe σ vs) vs = wipe σ vs := wipe_eq (wipe_length σ vs) fun j hj => wipeS_get vs hj
theorem lc2_gen {x : Xr} {Qr : Rv → Rho → Prop} (hsl : ∀ i ∈ g.sl, i ∈ own.map (·.2)) (hsl1 : ∀ i ∈ g1.sl, i ∈ ow1) (hov : ∀ i ∈ ow1, i ∈ own.map (·.2)) (P : Pre R C B EX F σ ρ H n (cE Γ (.lc2 elt g it cond g1 it1 cond1 own ow1)) nb x) (h : wE Γ x (.lc2 elt g it cond g1 it1 cond1 own ow1) ρ Qr)
    (hfin : ∀ acc accV Dp H' n' ρ', Qr (.pr (.lst acc)) ρ' → Rl R (F.add Dp (.lst accV)) ρ' n' σ H' → F.H0 Dp = none → (Dp ≠ R.dd ∧ Dp ≠ R.dl) → (∀ a, MM F ρ' σ a → MM F ρ σ a) → ExtM (MM F ρ σ) H H' → ¬ MM F ρ' σ Dp →
      RepAll R (MM (F.add Dp (.lst accV)) ρ' σ) H' accV acc → accV.length ≤ sizeLine → n' ≤ n + cE Γ (.lc2 elt g it cond g1 it1 cond1 own ow1) → (∀ a, F.M0 a → ∃ u, F.H0 a = some u) → Q (.ref Dp) H') :
    tLc2 (tI R C Γ B EX it) (tG R g) (tT R C Γ B NoE cond) (tI R C Γ B NoE it1) (tG R g1) (tT R C Γ B NoE cond1) (tE R C Γ B NoE elt) (own.map (·.2)) ow1 σ H Q := by
  simp only [wE] at h
  simp only [cE] at P hfin
  generalize hvs : own.map (·.2) = vs at h hsl hov ⊢
  generalize hcc : cE Γ cond1 + cE Γ elt = cc at P hfin
  generalize hcb : cE Γ cond + (cI Γ it1 + 2 ^ 63 * cc) = cb at P hfin
  refine ⟨F, ρ, n, nb, x, P.dn (Nat.le_add_right _ _), wI_mono it (xid x) (fun ds ρ1 h J gh H1 n1 s1 hgh w Dp hDp => ?_) h⟩
  obtain ⟨no, W, w0, step, fin⟩ := h
  obtain ⟨rb, eb⟩ := (s1.rl.more hgh).block no
  have f0 := rb.free0 hDp
  have ne := rb.ow_ne f0
  have m0 := rb.m0
  have iρ : wipeR (wipeR ρ1 vs) vs = wipeR ρ1 vs := wipeR_idem
  have iσ : wipe (wipe σ vs) vs = wipe σ vs := wipe_idem
  generalize hρw : wipeR ρ1 vs = ρw at rb eb step fin iρ
  generalize hσw : wipe σ vs = σw at rb eb iσ
  have ra := rb.add (o := .lst []) hDp
  have bnd : ∀ i, i < ds.length → n1 + i * cb + cb ≤ nb := fun i hi => by
    have h1 : i * cb + cb ≤ 2 ^ 63 * cb := by
      rw [← Nat.succ_mul]
      exact Nat.mul_le_mul_right _ (Nat.le_trans hi w.len)
    have := P.le; have := s1.le; omega
  have eMa : ∀ {o o' : HO} {a}, MM ((F.more gh).add Dp o) ρw σw a → MM ((F.more gh).add Dp o') ρw σw a := fun {o o' a} z => MM.add.mpr (MM.add.mp z)
  refine ⟨fun i mm H => mm = ds.length - i ∧ i ≤ ds.length ∧ ∃ accV acc n', Rl R ((F.more gh).add Dp (.lst accV)) ρw n' σw H ∧ n' ≤ n1 + i * cb ∧ RepAll R (MM ((F.more gh).add Dp (.lst accV)) ρw σw) H accV acc ∧ accV.length ≤ sizeLine ∧ ExtM (MM F ρ1 σ) H1 H ∧ W i acc,
    ⟨ds.length, by simp, Nat.zero_le _, [], [], n1, ra, by simp, .nil, Nat.zero_le _, .alloc hDp, w0⟩, ?_⟩
  rintro i mm H ⟨rfl, hi, accV, acc, n', rl, hn, rep, hz, ext, hW⟩
  have gh' : ∀ p ∈ gh, Rep R (MM ((F.more gh).add Dp (.lst accV)) ρw σw) H p.1 p.2 := fun p hp => rl.gh p (List.mem_append_left _ hp)
  by_cases hlt : i < ds.length
  · right
    have hd : ds[i]? = some ds[i] := List.getElem?_eq_getElem hlt
    obtain ⟨go, yl⟩ := w.go i _ H ds[i] gh' hd rl.fm
    refine ⟨go, fun H => ∃ accV acc n', Rl R ((F.more gh).add Dp (.lst accV)) ρw n' σw H ∧ n' ≤ n1 + (i + 1) * cb ∧ RepAll R (MM ((F.more gh).add Dp (.lst accV)) ρw σw) H accV acc ∧ accV.length ≤ sizeLine ∧ ExtM (MM F ρ1 σ) H1 H ∧ W (i + 1) acc,
      fun H' ⟨aV, ac, k', q⟩ => ⟨ds.length - (i + 1), by omega, rfl, hlt, aV, ac, k', q⟩, fun xv H' y => ?_⟩
    obtain ⟨sm, rx⟩ := yl xv H' y
    have rl' := rl.same sm
    have bi := bnd i hlt
    have hPB := P.B
    refine ⟨_, ρw, n', ds[i], rl', rx, setG_mono g (fun ρ2 ⟨h2, gi⟩ σ2 st => ?_) (setG_inf g (step i ds[i] acc hd hW))⟩
    obtain ⟨eσ, eρ, no2⟩ := blk_back hsl st.len st.out gi iρ iσ
    -- back to the block's start, whatever was put in
    have back : ∀ {o : HO} {k : Nat} {K : Hp}, Rl R ((F.more gh).add Dp o) ρ2 k σ2 K → Rl R ((F.more gh).add Dp o) ρw k σw K ∧ ∀ a, MM ((F.more gh).add Dp o) ρw σw a ↔ MM ((F.more gh).add Dp o) ρ2 σ2 a := fun {o k K} r => by
      have z := r.block no2
      rw [eρ, eσ] at z
      exact z
    have eM2 := (back st.rl).2
    have grow : ∀ {K : Hp}, ExtM (MM ((F.more gh).add Dp (.lst accV)) ρ2 σ2) H' K → ExtM (MM ((F.more gh).add Dp (.lst accV)) ρw σw) H K := fun {K} e a o nm q => e a o (fun z => nm ((eM2 a).mpr z)) (sm a o q)
    have out : ∀ {K : Hp}, ExtM (MM ((F.more gh).add Dp (.lst accV)) ρw σw) H K → ExtM (MM F ρ1 σ) H1 K := fun {K} e a o nm q => e a o (fun z => (MM.add.mp z).elim (fun z => nm ((eb a).mp z)) fun z => by rw [z, hDp] at q; cases q) (ext a o nm q)
    refine ⟨eσ, (F.more gh).add Dp (.lst accV), ρ2, n', n1 + i * cb + cb, noX, ⟨st.rl, by omega, Nat.le_trans bi hPB, xok_none⟩, wT_mono cond (xid _) (fun b ρ3 h3 H3 n3 s3 => ?_) h2⟩
    obtain ⟨rfl, h3⟩ := h3
    have s3le := s3.le
    dsimp only
    split
    · rename_i hb
      rw [if_pos hb] at h3
      refine ⟨_, ρ3, n3, n1 + i * cb + cb, noX, ⟨s3.rl, by omega, Nat.le_trans bi hPB, xok_none⟩, wI_mono it1 (xid _) (fun es ρ4 h4 J1 gh1 H4 n4 s4 hgh1 w1 => ?_) h3⟩
      obtain ⟨rfl, V, v0, vstep, vfin⟩ := h4
      have s34 := s3.trans s4
      have s4le := s4.le
      -- the inner loop
      have noB : noOwn ρ4 ow1 = true := noOwn_sub hov no2
      have rm : Rl R (((F.more gh).more gh1).add Dp (.lst accV)) ρ4 n4 σ2 H4 := s34.rl.more hgh1
      obtain ⟨rv, ev⟩ := rm.block noB
      have jρ : wipeR (wipeR ρ4 ow1) ow1 = wipeR ρ4 ow1 := wipeR_idem
      have jσ : wipe (wipe σ2 ow1) ow1 = wipe σ2 ow1 := wipe_idem
      have lρ : wipeR (wipeR ρ4 ow1) vs = ρw := (wipeR_eq (wipeR_len ow1) fun j hj => wipe_get ow1 fun z => hj (hov j z)).trans eρ
      have lσ : wipe (wipe σ2 ow1) vs = σw := (wipe_eq (wipe_length σ2 ow1) fun j hj => wipeS_get ow1 fun z => hj (hov j z)).trans eσ
      have noV : noOwn (wipeR ρ4 ow1) vs = true := List.all_eq_true.mpr fun v hv => by
        by_cases q : v ∈ ow1
        · cases q3 : (wipeR ρ4 ow1)[v]? with
          | none => rfl
          | some o =>
            cases o with
            | none => rfl
            | some pr => exact absurd q3 (wipe_in ow1 q)
        · rw [wipe_get ow1 q]
          exact List.all_eq_true.mp no2 v hv
      generalize hρv : wipeR ρ4 ow1 = ρv at rv ev vstep jρ lρ noV
      generalize hσv : wipe σ2 ow1 = σv at rv ev jσ lσ
      have f02 : ((F.more gh).more gh1).H0 Dp = none := f0
      have eMb : ∀ {o o' : HO} {a}, MM (((F.more gh).more gh1).add Dp o) ρv σv a → MM (((F.more gh).more gh1).add Dp o') ρv σv a := fun {o o' a} z => MM.add.mpr (MM.add.mp z)
      have bn1 : ∀ j, j < es.length → n4 + j * cc + cc ≤ n1 + i * cb + cb := fun j hj => by
        have h1 : j * cc + cc ≤ 2 ^ 63 * cc := by
          rw [← Nat.succ_mul]
          exact Nat.mul_le_mul_right _ (Nat.le_trans hj w1.len)
        omega
      have up : ∀ {o : HO} {k : Nat} {K : Hp}, Rl R (((F.more gh).more gh1).add Dp o) ρv k σv K → Rl R ((F.more gh).add Dp o) ρw k σw K ∧ ∀ a, MM ((F.more gh).add Dp o) ρw σw a ↔ MM (((F.more gh).more gh1).add Dp o) ρv σv a := fun {o k K} r => by
        have r1 : Rl R (((F.more gh).add Dp o).more gh1) ρv k σv K := r
        have z := (Rl.less r1).block noV
        rw [lρ, lσ] at z
        exact z
      have g34 := grow s34.ext
      have rep4 : RepAll R (MM (((F.more gh).more gh1).add Dp (.lst accV)) ρv σv) H4 accV acc := (rep.keep (fun _ z => z) g34).keep (fun a z => ((up rv).2 a).mpr z) .refl
      refine ⟨fun j kk H => kk = es.length - j ∧ j ≤ es.length ∧ ∃ bV bcc n', Rl R (((F.more gh).more gh1).add Dp (.lst bV)) ρv n' σv H ∧ n' ≤ n4 + j * cc ∧ RepAll R (MM (((F.more gh).more gh1).add Dp (.lst bV)) ρv σv) H bV bcc ∧ bV.length ≤ sizeLine ∧ ExtM (MM F ρ1 σ) H1 H ∧ V j bcc,
        ⟨es.length, by simp, Nat.zero_le _, accV, acc, n4, rv, by simp, rep4, hz, out g34, v0⟩, ?_⟩
      rintro j kk Hj ⟨rfl, hj, bV, bcc, nj, rlj, hnj, repj, hzj, extj, hV⟩
      have ghj : ∀ p ∈ gh1, Rep R (MM (((F.more gh).more gh1).add Dp (.lst bV)) ρv σv) Hj p.1 p.2 := fun p hp => rlj.gh p (List.mem_append_left _ hp)
      by_cases hlj : j < es.length
      · right
        have hde : es[j]? = some es[j] := List.getElem?_eq_getElem hlj
        obtain ⟨go1, yl1⟩ := w1.go j _ Hj es[j] ghj hde rlj.fm
        refine ⟨go1, fun H => ∃ bV bcc n', Rl R (((F.more gh).more gh1).add Dp (.lst bV)) ρv n' σv H ∧ n' ≤ n4 + (j + 1) * cc ∧ RepAll R (MM (((F.more gh).more gh1).add Dp (.lst bV)) ρv σv) H bV bcc ∧ bV.length ≤ sizeLine ∧ ExtM (MM F ρ1 σ) H1 H ∧ V (j + 1) bcc,
          fun H' ⟨aV, ac, k', q⟩ => ⟨es.length - (j + 1), by omega, rfl, hlj, aV, ac, k', q⟩, fun xw Hk y1 => ?_⟩
        obtain ⟨sm1, rx1⟩ := yl1 xw Hk y1
        have bj := bn1 j hlj
        refine ⟨_, ρv, nj, es[j], rlj.same sm1, rx1, setG_mono g1 (fun ρ5 ⟨h5, gi5⟩ σ5 st5 => ?_) (setG_inf g1 (vstep j es[j] bcc hde hV))⟩
        obtain ⟨eσ5, eρ5, no5⟩ := blk_back hsl1 st5.len st5.out gi5 jρ jσ
        have back5 : ∀ {o : HO} {k : Nat} {K : Hp}, Rl R (((F.more gh).more gh1).add Dp o) ρ5 k σ5 K → Rl R (((F.more gh).more gh1).add Dp o) ρv k σv K ∧ ∀ a, MM (((F.more gh).more gh1).add Dp o) ρv σv a ↔ MM (((F.more gh).more gh1).add Dp o) ρ5 σ5 a := fun {o k K} r => by
          have z := r.block no5
          rw [eρ5, eσ5] at z
          exact z
        have eM5 := (back5 st5.rl).2
        have grow5 : ∀ {K : Hp}, ExtM (MM (((F.more gh).more gh1).add Dp (.lst bV)) ρ5 σ5) Hk K → ExtM (MM (((F.more gh).more gh1).add Dp (.lst bV)) ρv σv) Hj K := fun {K} e a o nm q => e a o (fun z => nm ((eM5 a).mpr z)) (sm1 a o q)
        have out5 : ∀ {K : Hp}, ExtM (MM (((F.more gh).more gh1).add Dp (.lst bV)) ρv σv) Hj K → ExtM (MM F ρ1 σ) H1 K := fun {K} e a o nm q => e a o (fun z => by
          have z2 := ((up rlj).2 a).mpr z
          exact (MM.add.mp z2).elim (fun z => nm ((eb a).mp z)) fun z => by rw [z, hDp] at q; cases q) (extj a o nm q)
        refine ⟨eσ5, ((F.more gh).more gh1).add Dp (.lst bV), ρ5, nj, n1 + i * cb + cb, noX, ⟨st5.rl, by omega, Nat.le_trans bi hPB, xok_none⟩, wT_mono cond1 (xid _) (fun b1 ρ6 h6 H6 n6 s6 => ?_) h5⟩
        obtain ⟨rfl, h6⟩ := h6
        have s6le := s6.le
        dsimp only
        split
        · rename_i hb1
          rw [if_pos hb1] at h6
          refine ⟨_, ρ6, n6, n1 + i * cb + cb, noX, ⟨s6.rl, by omega, Nat.le_trans bi hPB, xok_none⟩, wE_mono elt (xid _) (fun r ρ7 h7 yv H7 n7 s7 r7 => ?_) h6.2⟩
          obtain ⟨z, ρ8, ⟨rfl, h8⟩, s8, r8⟩ := r7.esc s7.rl h7
          have s78 := s7.trans s8
          have s78le := s78.le
          have hD7 : H7 Dp = some (.lst bV) := s8.rl.addH f02 ne.1 ne.2
          have hz' : bV.length < sizeLine := by rw [repj.length]; exact h6.1
          have gr := grow5 (s6.ext.trans s78.ext s6.sub)
          have hw : ExtM (MM (((F.more gh).more gh1).add Dp (.lst bV)) ρv σv) H7 (upd H7 Dp (.lst (bV ++ [yv]))) := ext_own (MM.add.mpr (.inr rfl))
          refine ⟨bV, hD7, hz', bV ++ [yv], bcc ++ [z], n7, (back5 s8.rl).1.readd ne.1 ne.2, ?_, ?_, by rw [List.length_append]; exact hz', out5 (gr.trans hw fun _ z => z), h8⟩
          · rw [Nat.succ_mul]
            omega
          · refine RepAll.append ?_ (.cons ?_ .nil)
            · exact (repj.keep (fun _ z => z) gr).keep (fun _ z => eMb z) hw
            · exact (r8.keep (fun a z => (eM5 a).mp (eMb z)) .refl).keep (fun _ z => z) (ext_own (eMb (o := .lst bV) (MM.add.mpr (.inr rfl))))
        · rename_i hb1
          rw [if_neg hb1] at h6
          refine ⟨bV, bcc, n6, (back5 s6.rl).1, ?_, repj.keep (fun _ z => z) (grow5 s6.ext), hzj, out5 (grow5 s6.ext), h6⟩
          rw [Nat.succ_mul]
          omega
      · left
        have ej : j = es.length := by omega
        subst ej
        refine ⟨w1.stop _ _ Hj ghj (Nat.le_refl _), bV, bcc, nj, (up rlj).1, ?_, repj.keep (fun a z => ((up rlj).2 a).mp z) .refl, hzj, extj, vfin bcc hV⟩
        have h1 : es.length * cc ≤ 2 ^ 63 * cc := Nat.mul_le_mul_right _ w1.len
        rw [Nat.succ_mul]
        omega
    · rename_i hb
      rw [if_neg hb] at h3
      refine ⟨accV, acc, n3, (back s3.rl).1, ?_, rep.keep (fun _ z => z) (grow s3.ext), hz, out (grow s3.ext), h3⟩
      rw [Nat.succ_mul]
      omega
  · left
    have ei : i = ds.length := by omega
    subst ei
    refine ⟨w.stop _ _ H gh' (Nat.le_refl _), ?_⟩
    obtain ⟨rl3, e3⟩ := rl.sig (σ' := σ) (fun i p e => by
      rw [← hσw, wipeS_get vs fun hv => by rw [← hρw] at e; exact wipe_in vs hv e]) (by rw [← hσw, wipe_length])
    have e4 : ∀ a, MM F ρw σ a ↔ MM F ρ1 σ a := fun a => by
      have z : MM F ρw σw a ↔ MM F ρ1 σ a := eb a
      refine Iff.trans ?_ z
      constructor
      · intro q
        rcases MM.add.mp ((e3 a).mp (MM.add.mpr (.inl q))) with w | w
        · exact w
        · exfalso
          rcases q with q | ⟨k, d, q1, q2⟩
          · obtain ⟨o, e⟩ := m0 a q
            rw [w, f0] at e; cases e
          · obtain ⟨a', q3, _, q4⟩ := rl3.ow k d q1
            rw [q2] at q3; cases q3
            have q4 : upd F.H0 Dp (.lst accV) a = none := q4
            rw [w, upd_same] at q4; cases q4
      · intro q
        rcases MM.add.mp ((e3 a).mpr (MM.add.mpr (.inl q))) with w | w
        · exact w
        · exfalso
          have z2 : MM F ρ1 σ Dp := (eb Dp).mp (w ▸ q)
          obtain ⟨o, q⟩ := s1.rl.there z2
          rw [hDp] at q; cases q
    have np : ¬ MM F ρw σ Dp := fun z => by
      obtain ⟨o, q⟩ := s1.rl.there ((e4 Dp).mp z)
      rw [hDp] at q; cases q
    refine hfin acc accV Dp H n' ρw (fin acc hW) (Rl.less (F := F.add Dp (.lst accV)) (gh := gh) rl3) f0 ne (fun a z => s1.sub a ((e4 a).mp z)) (s1.ext.trans ext s1.sub) np (rep.keep (fun a z => (e3 a).mp z) .refl) hz ?_ m0
    have h1 : ds.length * cb ≤ 2 ^ 63 * cb := Nat.mul_le_mul_right _ w.len
    have := s1.le; omega
theorem lc2_read (hsl : ∀ i ∈ g.sl, i ∈ own.map (·.2)) (hsl1 : ∀ i ∈ g1.sl, i ∈ ow1) (hov : ∀ i ∈ ow1, i ∈ own.map (·.2)) (h : tE R C Γ B EX (.lc2 elt g it cond g1 it1 cond1 own ow1) σ H Q) :
    tLc2 (tI R C Γ B EX it) (tG R g) (tT R C Γ B NoE cond) (tI R C Γ B NoE it1) (tG R g1) (tT R C Γ B NoE cond1) (tE R C Γ B NoE elt) (own.map (·.2)) ow1 σ H Q := by
  obtain ⟨F, ρ, n, nb, x, P, h⟩ := h
  refine lc2_gen hsl hsl1 hov P h fun acc accV Dp H' n' ρ' hq rl f0 ne sub ext np rep hz hn m0 => ?_
  have hD : H' Dp = some (.lst accV) := rl.addH f0 ne.1 ne.2
  exact hq _ _ n' ⟨rl.unadd f0 m0 ne.1 ne.2, hn, sub, ext⟩ (.lst ⟨np, hD⟩ hz (rep.keep (fun a z => MM.add.mpr (.inl z)) .refl))
theorem lc2_own (hsl : ∀ i ∈ g.sl, i ∈ own.map (·.2)) (hsl1 : ∀ i ∈ g1.sl, i ∈ ow1) (hov : ∀ i ∈ ow1, i ∈ own.map (·.2)) (h : tO R C Γ B EX (.lc2 elt g it cond g1 it1 cond1 own ow1) σ H Q) :
    tLc2 (tI R C Γ B EX it) (tG R g) (tT R C Γ B NoE cond) (tI R C Γ B NoE it1) (tG R g1) (tT R C Γ B NoE cond1) (tE R C Γ B NoE elt) (own.map (·.2)) ow1 σ H Q := by
  obtain ⟨F, ρ, n, nb, x, P, h⟩ := h
  refine lc2_gen hsl hsl1 hov P h fun acc accV Dp H' n' ρ' hq rl f0 ne sub ext np rep hz hn m0 => ?_
  obtain ⟨d, e, hq⟩ := hq
  cases e
  exact hq Dp _ H' n' rl f0 ne m0 (.lst (rl.addH f0 ne.1 ne.2) hz rep) hn
end
end DL

set_option Elab.async false
set_option linter.all false
set_option maxRecDepth 100000
set_option maxHeartbeats 4000000
/-! lists that are new, as things of one's own: xs + ys, xs[:i], x.split(y) -/
namespace DL
open PySem L2
section
variable {R : RP} {C : XCl} {Γ : Gm} {B m ng : Nat} {EX : WX} {N : List Str} {sc : Scope} {fb : Str → Bool} {X : Cx} {F : FrD} {σ : St} {ρ ρ' ρ1 : Rho} {H H' H1 : Hp} {n n' n1 c nb : Nat}
variable {a b e1 e : Expr} {es : List Expr} {p q r : E} {ps : Es} {pos : Pos} {Q : VK}
/-- a new list at p -/
theorem own_new {k : Nat} {vs : List V} {zs : List D} (s : Stp R F σ ρ H n k ρ' H1 n1) (r : RepAll R (MM F ρ' σ) H1 vs zs) (hz : vs.length ≤ sizeLine)
    (h : ∀ p o H' n', Rl R (F.add p o) ρ' n' σ H' → F.H0 p = none → (p ≠ R.dd ∧ p ≠ R.dl) → (∀ a, F.M0 a → ∃ u, F.H0 a = some u) → OwnAt R (MM (F.add p o) ρ' σ) H' p (.lst zs) → n' ≤ n + k → Q (.ref p) H') : ∀ p, H1 p = none → Q (.ref p) (upd H1 p (.lst vs)) := fun p hp => by
  have f0 := s.rl.free0 hp
  exact h p _ _ n1 (s.rl.add hp) f0 (s.rl.ow_ne f0) s.rl.m0 (.lst upd_same hz ((r.bar hp).keep (fun a z => MM.add.mp z) (.alloc hp))) s.le
theorem o_add (ha : PE X a (tE R C Γ B EX p)) (hb : PE X b (tE R C Γ B EX q)) : PE X (.BinOp a .Add b pos) (tO R C Γ B EX (.ownd (.bin .Add p q))) := imE (pe_op op_cat ha hb) fun σ H Q ⟨F, ρ, n, nb, x, P, h⟩ => by
  simp only [wE] at h
  simp only [cE] at P h
  refine s_two P (Nat.le_refl _) h fun r s ρ2 v u H2 n2 h s2 rv ru => ?_
  obtain ⟨d, r1, h⟩ := rv.use s2.rl h
  obtain ⟨e, r2, h⟩ := ru.use s2.rl h
  cases d with
  | lst xs =>
    cases e with
    | lst ys =>
      obtain ⟨hl, zs, e1, d0, e2, h⟩ := (show _ ∧ _ from h)
      cases e1
      cases e2
      obtain ⟨a1, vs, rfl, h1, l1, q1⟩ := r1.lst
      obtain ⟨a2, ws, rfl, h2, l2, q2⟩ := r2.lst
      have hl' : vs.length + ws.length ≤ sizeLine := by rw [q1.length, q2.length]; exact hl
      exact ⟨a1, a2, vs, ws, rfl, rfl, h1, h2, hl', own_new s2 (q1.append q2) (by rw [List.length_append]; exact hl') h⟩
    | _ => exact False.elim h
  | int i =>
    cases e with
    | int j => obtain ⟨zs, e1, _⟩ := (show _ from h); cases e1
    | _ => exact False.elim h
  | str i =>
    cases e with
    | str j => obtain ⟨_, zs, e1, _⟩ := (show _ ∧ _ from h); cases e1
    | _ => exact False.elim h
  | tup i =>
    cases e with
    | tup j => obtain ⟨_, zs, e1, _⟩ := (show _ ∧ _ from h); cases e1
    | _ => exact False.elim h
  | _ => cases e <;> exact False.elim h
theorem o_slU {p2 : Pos} (ha : PE X a (tE R C Γ B EX p)) (hb : PE X b (tE R C Γ B EX q)) : PE X (.Subscript a (.Slice none (some b) none p2) pos) (tO R C Γ B EX (.ownd (.slU p q))) := imE (pe_slice sl_list ha po_none (po_some hb)) fun σ H Q ⟨F, ρ, n, nb, x, P, h⟩ => by
  simp only [wE] at h
  simp only [cE] at P h
  refine ⟨F, ρ, n, nb, x, P.dn (by omega), wE_mono p (xid x) (fun r ρ1 h v H1 n1 s1 r1 => ?_) h⟩
  refine ⟨F, ρ1, n1, nb, x, P.go s1 (by omega), wE_mono q (xid x) (fun s ρ2 h u H2 n2 s2 r2 => ?_) h⟩
  obtain ⟨d, m1, h⟩ := (r1.keep s2).use s2.rl h
  obtain ⟨e, m2, i, rfl, h⟩ := r2.use s2.rl h
  cases m2.int
  have s12 := s1.trans s2
  cases d with
  | lst xs =>
    obtain ⟨zs, e1, d0, e2, h⟩ := (show _ from h)
    cases e1
    cases e2
    obtain ⟨a1, vs, rfl, h1, l1, q1⟩ := m1.lst
    exact ⟨i, rfl, a1, vs, rfl, SqL.of h1, own_new s12 (cut_rep q1 none (some i)) (Nat.le_trans (cutV_len _ _ _) l1) h⟩
  | tup xs => obtain ⟨zs, e1, _⟩ := (show _ from h); cases e1
  | str xs => obtain ⟨zs, e1, _⟩ := (show _ from h); cases e1
  | _ => exact False.elim h
theorem o_split {ap : Pos} (k : Ctx R C Γ B m ng EX N sc fb X) (ho : PE X a (tE R C Γ B EX p)) (ha : PA X (e :: es) (tAs R C Γ B EX ps)) (hb : notBase a = true) (hs : noStar (e :: es) = true) (hl : (e :: es).length < 30) (hp : (ap.endLine == pos.line) = true) :
    PE X (.Call (.Attribute a "split" ap) (e :: es) [] pos) (tO R C Γ B EX (.ownd (.mth "str.split" p ps))) := by
  have hs' := Bool.and_eq_true_iff.mp (show (notSt e && es.all notSt) = true from hs)
  have I := mth_inf (id := "str.split") (by decide)
  refine imE (pe_bm I.pa I.slot I.ty mt_split ho ha (base_of hb) (star_few hs hl) hp (star_cons hs'.1) (star_any hs'.2)) fun σ H Q ⟨F, ρ, n, nb, x, P, h⟩ => ?_
  simp only [wE] at h
  simp only [cE] at P h
  refine ⟨F, ρ, n, nb, x, P.dn (by omega), wE_mono p (xid x) (fun r ρ1 h v H1 n1 s1 r1 => ?_) h⟩
  obtain ⟨d0, m0, e0, h⟩ := r1.use s1.rl h
  refine ⟨isT_tyV m0 e0 (mth_ty (id := "str.split") (by decide)), F, ρ1, n1, nb, x, P.go s1 (by omega), wAs_mono ps (xid x) (fun rs ρ2 h vs H2 n2 s2 r2 => ?_) h⟩
  obtain ⟨d, m1, h⟩ := (r1.keep s2).use s2.rl h
  obtain ⟨ds, m2, h⟩ := r2.use s2.rl h
  have s12 := s1.trans s2
  unfold dMth at h
  split at h
  · exact absurd (by assumption : ("str.split" : String) = "str.join") (by decide)
  · exact absurd (by assumption : ("str.split" : String) = "str.index") (by decide)
  · rename_i z y
    obtain ⟨⟨y0, z0⟩, l0, ok, zs, e1, dd, e2, h⟩ := h
    cases e1
    cases e2
    obtain ⟨rfl, k1⟩ := m1.str
    obtain ⟨w, rfl, hw⟩ := m2.one
    obtain ⟨rfl, k2⟩ := hw.str
    refine ⟨_, _, rfl, rfl, y0, z0, ?_⟩
    refine own_new s12 (strs_new fun z hz => ?_) (by rw [List.length_map]; exact l0) h
    exact ⟨(ok z hz).1, (ok z hz).2⟩
  · exact absurd (by assumption : ("str.split" : String) = "list.index") (by decide)
  · exact h.elim
end
end DL

set_option Elab.async false
set_option linter.all false
set_option maxRecDepth 100000
set_option maxHeartbeats 4000000
namespace DL
open PySem L2
/-! ### more is promised -/
structure EnLe (D D' : En) : Prop where
  nx : ∀ ρ, D.nx ρ → D'.nx ρ
  rt : ∀ d, D.rt d → D'.rt d
  bk : ∀ ρ, D.bk ρ → D'.bk ρ
  ct : ∀ ρ, D.ct ρ → D'.ct ρ
theorem dAug_mono {op : Operator} {x y : D} {k k' : D → Prop} (h : ∀ z, k z → k' z) : dAug op x y k → dAug op x y k' := by
  fun_cases dAug op x y k <;> (try simp only [dAug]) <;> first | exact h _ | exact fun q => ⟨q.1, h _ q.2⟩ | (intro q; exact q.elim)
variable {Γ : Gm}
mutual
theorem wS_mono : ∀ (s : S) {x x' : Xr} {D D' : En} {ρ : Rho}, (∀ c l ρ, x c l ρ → x' c l ρ) → EnLe D D' → wS Γ x s D ρ → wS Γ x' s D' ρ
  | .asg g e, x, x', D, D', ρ, hx, h => by simp only [wS]; exact wE_mono e hx fun _ _ => escR_mono fun _ _ => setG_mono g h.nx
  | .asgO i e, x, x', D, D', ρ, hx, h => by
    simp only [wS]
    refine wE_mono e hx fun r _ => ?_
    cases r
    · exact h.nx _
    · exact id
  | .par js es, x, x', D, D', ρ, hx, h => by simp only [wS]; exact wEs_mono es hx fun _ _ q => ⟨q.1, h.nx _ q.2⟩
  | .parO i j e f, x, x', D, D', ρ, hx, h => by
    simp only [wS]
    refine wE_mono e hx fun r _ => ?_
    cases r
    · exact wE_mono f hx fun _ _ => escR_mono fun _ _ => h.nx _
    · exact id
  | .aug i op e, x, x', D, D', ρ, hx, h => by
    simp only [wS]
    split
    · exact wE_mono e hx fun _ _ => useR_mono fun _ => dAug_mono fun _ => h.nx _
    · exact id
  | .setix i k e, x, x', D, D', ρ, hx, h => by
    simp only [wS]
    exact wE_mono e hx fun _ _ => escR_mono fun _ _ ⟨e0, q⟩ => ⟨e0, wE_mono k hx (fun _ ρ3 => useR_mono fun _ ⟨xs, e1, j, m, e2, e3, q⟩ => ⟨xs, e1, j, m, e2, e3, h.nx _ q⟩) q⟩
  | .exp e, x, x', D, D', ρ, hx, h => by simp only [wS]; exact wE_mono e hx fun _ _ => h.nx _
  | .ret e, x, x', D, D', ρ, hx, h => by simp only [wS]; exact wE_mono e hx fun _ _ => escR_mono fun _ _ => h.rt _
  | .retN, x, x', D, D', ρ, hx, h => by simp only [wS]; exact h.rt _
  | .ite c a b, x, x', D, D', ρ, hx, h => by simp only [wS]; exact wT_mono c hx fun _ _ => ite_mono (wSs_mono a hx h) (wSs_mono b hx h)
  | .for g it b, x, x', D, D', ρ, hx, h => by
    simp only [wS]
    exact wI_mono it hx fun ds ρ1 ⟨W, w0, st, fin⟩ => ⟨W, w0, fun i d ρ2 e w => setG_mono g (fun ρ3 w => wSs_mono b hx (D := { D with nx := W (i + 1), ct := W (i + 1), bk := D.nx }) ⟨fun _ q => q, h.rt, h.nx, fun _ q => q⟩ w) (st i d ρ2 e w), fun ρ2 w => h.nx _ (fin ρ2 w)⟩
  | .whl c b, x, x', D, D', ρ, hx, h => by
    simp only [wS]
    exact fun ⟨W, w0, st⟩ => ⟨W, w0, fun m ρ1 w => wT_mono c hx (fun _ _ => ite_mono (fun w => wSs_mono b hx (D := { D with nx := fun ρ3 => ∃ m', m' < m ∧ W m' ρ3, ct := fun ρ3 => ∃ m', m' < m ∧ W m' ρ3, bk := D.nx }) ⟨fun _ q => q, h.rt, h.nx, fun _ q => q⟩ w) (h.nx _)) (st m ρ1 w)⟩
  | .brk, x, x', D, D', ρ, hx, h => by simp only [wS]; exact h.bk _
  | .cnt, x, x', D, D', ρ, hx, h => by simp only [wS]; exact h.ct _
  | .pass, x, x', D, D', ρ, hx, h => by simp only [wS]; exact h.nx _
  | .rse, x, x', D, D', ρ, hx, h => by simp only [wS]; exact id
  | .raise c f es, x, x', D, D', ρ, hx, h => by simp only [wS]; exact wEs_mono es hx fun _ _ => hx _ _ _
  | .try1 b c a i he, x, x', D, D', ρ, hx, h => by
    simp only [wS]
    refine wSs_mono b (fun k l ρ' => ?_) h
    unfold hX
    exact ite_mono (fun ⟨u, d, e, q⟩ => ⟨u, d, e, h.nx _ q⟩) (hx k l ρ')
theorem wSs_mono : ∀ (s : Ss) {x x' : Xr} {D D' : En} {ρ : Rho}, (∀ c l ρ, x c l ρ → x' c l ρ) → EnLe D D' → wSs Γ x s D ρ → wSs Γ x' s D' ρ
  | .nil, x, x', D, D', ρ, hx, h => by simp only [wSs]; exact h.nx _
  | .cons s r, x, x', D, D', ρ, hx, h => by simp only [wSs]; exact wS_mono s hx ⟨fun _ => wSs_mono r hx h, h.rt, h.bk, h.ct⟩
end

theorem wS_up {s : S} {x : Xr} {D D' : En} {ρ : Rho} (w : wS Γ x s D ρ) (h : EnLe D D') : wS Γ x s D' ρ := wS_mono s (fun _ _ _ h => h) h w
theorem wSs_up {s : Ss} {x : Xr} {D D' : En} {ρ : Rho} (w : wSs Γ x s D ρ) (h : EnLe D D') : wSs Γ x s D' ρ := wSs_mono s (fun _ _ _ h => h) h w
/-! ### statements -/
/-- where a statement ends, told by data -/
def enD (R : RP) (F : FrD) (n1 nb : Nat) (D : Ends) : En where
  nx := fun ρ' => ∀ σ' H' n', Rl R F ρ' n' σ' H' → n' ≤ n1 → D.nx σ' H'
  rt := fun d => ∀ v H' n', n' ≤ nb → ExtK R F.H0 H' → DeckOk R n' H' → Rep R F.M0 H' v d → D.rt v H'
  bk := fun ρ' => ∀ σ' H' n', Rl R F ρ' n' σ' H' → n' ≤ n1 → D.bk σ' H'
  ct := fun ρ' => ∀ σ' H' n', Rl R F ρ' n' σ' H' → n' ≤ n1 → D.ct σ' H'
section
variable (R : RP) (C : XCl) (Γ : Gm) (B : Nat) (EX : WX)
def tS (s : S) : TS := fun D σ H => ∃ F ρ n nb x, Pre R C B EX F σ ρ H n (cS Γ s) nb x ∧ wS Γ x s (enD R F (n + cS Γ s) nb D) ρ
def tSs (s : Ss) : TS := fun D σ H => ∃ F ρ n nb x, Pre R C B EX F σ ρ H n (cSs Γ s) nb x ∧ wSs Γ x s (enD R F (n + cSs Γ s) nb D) ρ
end
section
variable {R : RP} {C : XCl} {B m ng : Nat} {EX : WX} {N : List Str} {sc : Scope} {fb : Str → Bool} {X : Cx} {F : FrD} {σ σ' : St} {ρ ρ' ρ1 : Rho} {H H' H1 : Hp} {n n' n1 c nb : Nat}
variable {tg a b e1 e : Expr} {es : List Expr} {p q r elt cond : E} {ps qs : Es} {pos : Pos} {Q : VK} {g : G} {it : I} {own : List (Str × Nat)} {st : Stmt} {sts : List Stmt} {s : S} {ss tt : Ss}
theorem Pre.of (P : Pre R C B EX F σ ρ H n c nb x) (rl : Rl R F ρ1 n1 σ' H1) (h : n1 + c' ≤ nb) : Pre R C B EX F σ' ρ1 H1 n1 c' nb x := ⟨rl, h, P.B, P.xo⟩
theorem enD_le {D : Ends} {k1 k2 : Nat} (h : k2 ≤ k1) : EnLe (enD R F k1 nb D) (enD R F k2 nb D) :=
  ⟨fun ρ' w σ' H' n' rl le => w σ' H' n' rl (Nat.le_trans le h), fun d w => w, fun ρ' w σ' H' n' rl le => w σ' H' n' rl (Nat.le_trans le h), fun ρ' w σ' H' n' rl le => w σ' H' n' rl (Nat.le_trans le h)⟩
theorem s_nil : PSs X [] (tSs R C Γ B EX .nil) := imSs pss_nil fun D σ H ⟨F, ρ, n, nb, x, P, h⟩ => by
  simp only [wSs] at h
  exact h _ _ n P.rl (Nat.le_add_right _ _)
theorem s_seq (h1 : PS X st (tS R C Γ B EX s)) (h2 : PSs X sts (tSs R C Γ B EX ss)) : PSs X (st :: sts) (tSs R C Γ B EX (.cons s ss)) := imSs (pss_cons h1 h2) fun D σ H ⟨F, ρ, n, nb, x, P, h⟩ => by
  simp only [wSs] at h
  simp only [cSs] at P h
  refine ⟨F, ρ, n, nb, x, P.dn (Nat.le_add_right _ _), wS_up h ⟨fun ρ' w σ' H' n' rl le => ?_, fun d w => w, fun ρ' w σ' H' n' rl le => w σ' H' n' rl (by omega), fun ρ' w σ' H' n' rl le => w σ' H' n' rl (by omega)⟩⟩
  exact ⟨F, ρ', n', nb, x, P.of rl (by have := P.le; omega), wSs_up w (enD_le (by omega))⟩
theorem s_one1 (h1 : PS X st (tS R C Γ B EX s)) : PSs X [st] (tSs R C Γ B EX (.cons s .nil)) := s_seq h1 s_nil
theorem s_pass : PS X (.Pass pos) (tS R C Γ B EX .pass) := imS ps_pass fun D σ H ⟨F, ρ, n, nb, x, P, h⟩ => by
  simp only [wS] at h
  exact h _ _ n P.rl (Nat.le_add_right _ _)
theorem s_doc {y : Str} {j : Nat} {p1 : Pos} : PS X (.Expr (.Constant (.str y) j p1) pos) (tS R C Γ B EX .pass) := imS ps_doc fun D σ H ⟨F, ρ, n, nb, x, P, h⟩ => by
  simp only [wS] at h
  exact h _ _ n P.rl (Nat.le_add_right _ _)
theorem s_brk : PS X (.Break pos) (tS R C Γ B EX .brk) := imS ps_break fun D σ H ⟨F, ρ, n, nb, x, P, h⟩ => by
  simp only [wS] at h
  exact h _ _ n P.rl (Nat.le_add_right _ _)
theorem s_cnt : PS X (.Continue pos) (tS R C Γ B EX .cnt) := imS ps_continue fun D σ H ⟨F, ρ, n, nb, x, P, h⟩ => by
  simp only [wS] at h
  exact h _ _ n P.rl (Nat.le_add_right _ _)
theorem s_ret (he : PE X e (tE R C Γ B EX p)) : PS X (.Return (some e) pos) (tS R C Γ B EX (.ret p)) := imS (ps_ret he) fun D σ H ⟨F, ρ, n, nb, x, P, h⟩ => by
  simp only [wS] at h
  simp only [cS] at P h
  refine s_one P (Nat.le_refl _) h fun r ρ1 v H1 n1 h s1 r1 => ?_
  obtain ⟨d, ρ2, h, s2, r2⟩ := r1.esc s1.rl h
  exact h v H1 n1 (by have := s1.le; have := P.le; omega) s2.rl.ext s2.rl.dk (r2.keep (fun a m => .inl m) .refl)
theorem s_rse {e c : Option Expr} : PS X (.Raise e c pos) (tS R C Γ B EX .rse) := ⟨fun pins s σ H D I ⟨F, ρ, n, nb, x, P, h⟩ => by
  simp only [wS] at h⟩
theorem s_retN : PS X (.Return none pos) (tS R C Γ B EX .retN) := imS ps_retN fun D σ H ⟨F, ρ, n, nb, x, P, h⟩ => by
  simp only [wS] at h
  exact h .non H n (by have := P.le; omega) P.rl.ext P.rl.dk .non
def notComp : Expr → Bool
  | .ListComp .. | .SetComp .. | .DictComp .. => false
  | _ => true
theorem sw_no {t : Option Expr} {l : Nat} {env : Env} (h : notComp e = true) : swapsWith e t l env = pure false := by
  cases e <;> first | rfl | cases h
theorem s_exp (he : PE X e (tE R C Γ B EX p)) (hc : notComp e = true) : PS X (.Expr e pos) (tS R C Γ B EX (.exp p)) := imS (ps_expr he (sw_no hc)) fun D σ H ⟨F, ρ, n, nb, x, P, h⟩ => by
  simp only [wS] at h
  simp only [cS] at P h
  exact s_one P (Nat.le_refl _) h fun r ρ1 v H1 n1 h s1 r1 => h _ _ n1 s1.rl s1.le
theorem s_if {c : Expr} (hc : PT X c (tT R C Γ B EX p)) (ha : PSs X sts (tSs R C Γ B EX ss)) {sts' : List Stmt} (hb : PSs X sts' (tSs R C Γ B EX tt)) : PS X (.If c sts sts' pos) (tS R C Γ B EX (.ite p ss tt)) := imS (ps_if hc ha hb) fun D σ H ⟨F, ρ, n, nb, x, P, h⟩ => by
  simp only [wS] at h
  simp only [cS] at P h
  refine ⟨F, ρ, n, nb, x, P.dn (by omega), wT_mono p (xid x) (fun z ρ1 h H1 n1 s1 => ?_) h⟩
  dsimp only
  split
  · rename_i hz
    rw [if_pos hz] at h
    exact ⟨F, ρ1, n1, nb, x, P.go s1 (by omega), wSs_up h (enD_le (by have := s1.le; omega))⟩
  · rename_i hz
    rw [if_neg hz] at h
    exact ⟨F, ρ1, n1, nb, x, P.go s1 (by omega), wSs_up h (enD_le (by have := s1.le; omega))⟩
/-! stores -/
theorem asg_core {te : TE} (hE : ∀ σ H Q, tE R C Γ B EX p σ H Q → te σ H Q) {D : Ends} (h : tS R C Γ B EX (.asg g p) D σ H) : tAsg te (tG R g) D σ H := by
  obtain ⟨F, ρ, n, nb, x, P, h⟩ := h
  simp only [wS] at h
  simp only [cS] at P h
  refine hE _ _ _ (s_one P (Nat.le_refl _) h fun r ρ1 v H1 n1 h s1 r1 => ?_)
  obtain ⟨d, ρ2, h, s2, r2⟩ := r1.esc s1.rl h
  exact ⟨F, ρ2, n1, d, s2.rl, r2, setG_mono g (fun ρ3 w σ' st => w σ' H1 n1 st.rl s1.le) h⟩
theorem s_asg {tg : Expr} (he : PE X e (tE R C Γ B EX p)) (hg : PG X tg (tG R g)) (hs : swapsWithSole [tg] e pos.line X.env = pure false) (hw : swappedStores [tg] e X.env = pure none) (ht : notSt tg = true) :
    PS X (.Assign [tg] e pos) (tS R C Γ B EX (.asg g p)) := imS (ps_asg he hg hs hw (by rw [as_cons ht]; rfl)) fun D σ H h => asg_core (fun _ _ _ h => h) h
theorem asgO_core {i : Nat} {te : TE} (hE : ∀ σ H Q, tO R C Γ B EX p σ H Q → te σ H Q) {D : Ends} (hi : ∀ {F : FrD} {ρ : Rho} {n : Nat} {H : Hp}, Rl R F ρ n σ H → i < ρ.length) (h : tS R C Γ B EX (.asgO i p) D σ H) : tAsg te (gName i) D σ H := by
  obtain ⟨F, ρ, n, nb, x, P, h⟩ := h
  simp only [wS] at h
  simp only [cS] at P h
  refine hE _ _ _ ⟨F, ρ, n, nb, x, P, wE_mono p (xid x) (fun r ρ1 h => ?_) h⟩
  cases r with
  | sl j => exact h.elim
  | pr d =>
    refine ⟨d, rfl, fun p o H' n' rl f0 ne m0 w le => ?_⟩
    exact h _ _ n' (rl.storeOwn f0 m0 ne.1 ne.2 (hi rl) w) le
theorem s_asgO {i : Nat} {y : Str} {py : Pos} (k : Ctx R C Γ B m ng EX N sc fb X) (he : PE X e (tO R C Γ B EX p)) (hi : N[i]? = some y) (ht : tgtB sc fb y = true) (hs : swapsWith e (some (.Name y py)) pos.line X.env = pure false) :
    PS X (.Assign [.Name y py] e pos) (tS R C Γ B EX (.asgO i p)) := by
  have hx : (X.env.scope.names.lookup y = some .local) ∨ (X.env.scope.names.lookup y = some .cell ∧ X.fn y = true) := by
    rw [k.esc]
    rcases Bool.or_eq_true_iff.mp ht with z | z
    · exact .inl (of_decide_eq_true z)
    · obtain ⟨z1, z2⟩ := Bool.and_eq_true_iff.mp z
      exact .inr ⟨of_decide_eq_true z1, k.fnc y z2⟩
  have base := ps_set (X := X) (te := tO R C Γ B EX p) (k.eN ▸ k.nd) (k.eN ▸ hi) (hx.imp id (·.1)) he hs (hx.elim .inr fun z => .inl z.2)
  refine ⟨fun pins s σ H D I h => base.run pins s σ H D I (asgO_core (fun _ _ _ h => h) (fun rl => ?_) h)⟩
  rw [rl.len, I.len, k.eN]
  exact (List.getElem?_eq_some_iff.mp hi).1
end
end DL

set_option Elab.async false
set_option linter.all false
set_option maxRecDepth 100000
set_option maxHeartbeats 4000000
namespace DL
open PySem L2
def notSl : Expr → Bool
  | .Slice .. => false
  | _ => true
section
variable {R : RP} {C : XCl} {Γ : Gm} {B m ng : Nat} {EX : WX} {N : List Str} {sc : Scope} {fb : Str → Bool} {X : Cx} {F : FrD} {σ σ' : St} {ρ ρ' ρ1 : Rho} {H H' H1 : Hp} {n n' n1 c nb : Nat}
variable {tg a b e1 e : Expr} {es : List Expr} {p q r elt cond : E} {ps qs : Es} {pos : Pos} {Q : VK} {g : G} {it : I} {own : List (Str × Nat)} {st : Stmt} {sts : List Stmt} {s : S} {ss tt : Ss}
theorem loc_of (k : Ctx R C Γ B m ng EX N sc fb X) {y : Str} (ht : tgtB sc fb y = true) : Loc X.env.scope y ∧ (X.fn y = true ∨ X.env.scope.names.lookup y = some .local) := by
  rw [k.esc]
  rcases Bool.or_eq_true_iff.mp ht with z | z
  · exact ⟨.inl (of_decide_eq_true z), .inr (of_decide_eq_true z)⟩
  · obtain ⟨z1, z2⟩ := Bool.and_eq_true_iff.mp z
    exact ⟨.inr (of_decide_eq_true z1), .inl (k.fnc y z2)⟩
/-! ### a, b = x, y -/
theorem setMany_rl : ∀ {js : List Nat} {ds : List D} {vs : List V} {ρ : Rho} {σ : St}, Rl R F ρ n σ H → RepAll R (MM F ρ σ) H vs ds → ds.length = js.length → js.Nodup →
    Rl R F (setMany ρ js ds) n ((js.zip vs).foldl (fun s p => s.set p.1 (some p.2)) σ) H
  | [], [], _, ρ, σ, h, .nil, _, _ => h
  | j :: js, d :: ds, _, ρ, σ, h, .cons (v := v) r rr, hl, nd => by
    show Rl R F (setMany (ρ.set j (some (false, d))) js ds) n _ H
    exact setMany_rl (h.store r) (rr.keep (fun _ z => store_sub z) .refl) (by simpa using hl) (List.nodup_cons.mp nd).2
  | [], _ :: _, _, _, _, _, _, hl, _ => by cases hl
  | _ :: _, [], _, _, _, _, _, hl, _ => by cases hl
theorem par_read {js : List Nat} {D : Ends} (nd : js.Nodup) (h : tS R C Γ B EX (.par js ps) D σ H) : tEs R C Γ B EX ps σ H fun vs H1 => vs.length = js.length ∧ D.nx ((js.zip vs).foldl (fun s p => s.set p.1 (some p.2)) σ) H1 := by
  obtain ⟨F, ρ, n, nb, x, P, h⟩ := h
  simp only [wS] at h
  simp only [cS] at P h
  refine ⟨F, ρ, n, nb, x, P, wEs_mono ps (xid x) (fun ds ρ1 h vs H1 n1 s1 r1 => ?_) h⟩
  obtain ⟨hl, h⟩ := h
  exact ⟨by rw [r1.length, hl], h _ _ n1 (setMany_rl s1.rl r1 hl nd) s1.le⟩
def lclB (sc : Scope) (x : Str) : Bool := decide (sc.names.lookup x = some .local)
theorem sws_two {env : Env} {x y : Str} {px py pt : Pos} {kt k2 : Nat} {a b : Expr} {pt2 : Pos} (hk : env.scope.kind = .function) (hx : env.scope.names.lookup x = some .local) (hy : env.scope.names.lookup y = some .local) (hl : (py.line == px.line) = true) (hxy : x ≠ y)
    (hs : noStar [a, b] = true) (hf : [a, b].all (foldedForSure 8) = false) (hc : [a, b].all (constantsAlone 8) = false) :
    swappedStores [.Tuple [.Name x px, .Name y py] kt pt] (.Tuple [a, b] k2 pt2) env = pure (some [x, y]) := by
  have kx : env.kindOf x = some .local := hx
  have ky : env.kindOf y = some .local := hy
  have hb : env.blockKind = .function := by unfold Env.blockKind; rw [hk]; rfl
  have q := Bool.and_eq_true_iff.mp (show (notSt a && (notSt b && true)) = true from hs)
  have q2 := Bool.and_eq_true_iff.mp q.2
  have s1 : ∀ {z : Expr}, notSt z = true → ¬ (match z with | .Starred .. => true | _ => false) = true := fun {z} hz => by cases z <;> first | exact Bool.false_ne_true | cases hz
  unfold swappedStores
  have e1 : (y == x) = false := by simpa using fun z : y = x => hxy z.symm
  simp [hb, hf, hc, kx, ky, Expr.pos, hl, e1, pure_bind]
  rw [if_neg (fun z => z.elim (s1 q.1) (s1 q2.1))]
  have hl' : py.line = px.line := by simpa using hl
  rw [List.filterMap_cons]
  simp [ky, hl', List.eraseDups_cons, e1]
theorem sws_three {env : Env} {x y z : Str} {px py pz pt : Pos} {kt k2 : Nat} {a b c : Expr} {pt2 : Pos} (hk : env.scope.kind = .function) (hx : env.scope.names.lookup x = some .local) (hy : env.scope.names.lookup y = some .local) (hz : env.scope.names.lookup z = some .local)
    (hl : (py.line == px.line) = true) (hl2 : (pz.line == px.line) = true) (hxy : x ≠ y) (hxz : x ≠ z) (hyz : y ≠ z)
    (hs : noStar [a, b, c] = true) (hf : [a, b, c].all (foldedForSure 8) = false) (hc : [a, b, c].all (constantsAlone 8) = false) :
    swappedStores [.Tuple [.Name x px, .Name y py, .Name z pz] kt pt] (.Tuple [a, b, c] k2 pt2) env = pure (some [x, y, z]) := by
  have kx : env.kindOf x = some .local := hx
  have ky : env.kindOf y = some .local := hy
  have kz : env.kindOf z = some .local := hz
  have hb : env.blockKind = .function := by unfold Env.blockKind; rw [hk]; rfl
  have q := Bool.and_eq_true_iff.mp (show (notSt a && (notSt b && (notSt c && true))) = true from hs)
  have q2 := Bool.and_eq_true_iff.mp q.2
  have q3 := Bool.and_eq_true_iff.mp q2.2
  have s1 : ∀ {z : Expr}, notSt z = true → ¬ (match z with | .Starred .. => true | _ => false) = true := fun {z} hz => by cases z <;> first | exact Bool.false_ne_true | cases hz
  unfold swappedStores
  have e1 : (y == x) = false := by simpa using fun w : y = x => hxy w.symm
  have e2 : (z == x) = false := by simpa using fun w : z = x => hxz w.symm
  have e3 : (z == y) = false := by simpa using fun w : z = y => hyz w.symm
  simp [hb, hf, hc, kx, ky, kz, Expr.pos, hl, hl2, e1, e2, e3, pure_bind]
  rw [if_neg (fun w => w.elim (s1 q.1) fun w => w.elim (s1 q2.1) (s1 q3.1))]
  have hl' : py.line = px.line := by simpa using hl
  have hl2' : pz.line = px.line := by simpa using hl2
  rw [List.filterMap_cons, List.filterMap_cons]
  simp [ky, kz, hl', hl2', List.eraseDups_cons, e1, e2, e3]
theorem s_par2 {i j : Nat} {x y : Str} {px py pt pt2 : Pos} {kt k2 : Nat} (k : Ctx R C Γ B m ng EX N sc fb X) (hk : sc.kind = .function) (hi : N[i]? = some x) (hj : N[j]? = some y) (hij : i ≠ j) (hx : lclB sc x = true) (hy : lclB sc y = true) (hl : (py.line == px.line) = true)
    (ha : PA X [a, b] (tEs R C Γ B EX ps)) (hs : noStar [a, b] = true) (hf : [a, b].all (foldedForSure 8) = false) (hc : [a, b].all (constantsAlone 8) = false) :
    PS X (.Assign [.Tuple [.Name x px, .Name y py] kt pt] (.Tuple [a, b] k2 pt2) pos) (tS R C Γ B EX (.par [i, j] ps)) := by
  have hxy : x ≠ y := fun e => hij (nodup_ix k.nd hi (e ▸ hj))
  have hx := of_decide_eq_true hx
  have hy := of_decide_eq_true hy
  refine imS (ps_par k.calm (k.eN ▸ k.nd) (k.eN ▸ hi) (k.eN ▸ hj) hij (k.esc ▸ hx) (k.esc ▸ hy) ha (sws_two (k.esc ▸ hk) (k.esc ▸ hx) (k.esc ▸ hy) hl hxy hs hf hc) rfl) fun D σ H h => ?_
  have h := par_read (by simpa using hij) h
  obtain ⟨F, ρ, n, nb, x, P, h⟩ := h
  refine ⟨F, ρ, n, nb, x, P, wEs_mono ps (xid x) (fun ds ρ1 h vs H1 n1 s1 r1 => ?_) h⟩
  obtain ⟨hl, h⟩ := h vs H1 n1 s1 r1
  match vs, hl with
  | [v, w], _ => exact ⟨v, w, rfl, h⟩
theorem s_par3 {i j l : Nat} {x y z : Str} {px py pz pt pt2 : Pos} {kt k2 : Nat} {c : Expr} (k : Ctx R C Γ B m ng EX N sc fb X) (hk : sc.kind = .function) (hi : N[i]? = some x) (hj : N[j]? = some y) (hl3 : N[l]? = some z) (hij : i ≠ j) (hil : i ≠ l) (hjl : j ≠ l) (hx : lclB sc x = true) (hy : lclB sc y = true) (hz : lclB sc z = true)
    (hl : (py.line == px.line) = true) (hl2 : (pz.line == px.line) = true)
    (ha : PA X [a, b, c] (tEs R C Γ B EX ps)) (hs : noStar [a, b, c] = true) (hf : [a, b, c].all (foldedForSure 8) = false) (hc : [a, b, c].all (constantsAlone 8) = false) :
    PS X (.Assign [.Tuple [.Name x px, .Name y py, .Name z pz] kt pt] (.Tuple [a, b, c] k2 pt2) pos) (tS R C Γ B EX (.par [i, j, l] ps)) := by
  have hxy : x ≠ y := fun e => hij (nodup_ix k.nd hi (e ▸ hj))
  have hxz : x ≠ z := fun e => hil (nodup_ix k.nd hi (e ▸ hl3))
  have hyz : y ≠ z := fun e => hjl (nodup_ix k.nd hj (e ▸ hl3))
  have hx := of_decide_eq_true hx
  have hy := of_decide_eq_true hy
  have hz := of_decide_eq_true hz
  refine imS (ps_par3 k.calm (k.eN ▸ k.nd) (k.eN ▸ hi) (k.eN ▸ hj) (k.eN ▸ hl3) hij hil hjl (k.esc ▸ hx) (k.esc ▸ hy) (k.esc ▸ hz) ha (sws_three (k.esc ▸ hk) (k.esc ▸ hx) (k.esc ▸ hy) (k.esc ▸ hz) hl hl2 hxy hxz hyz hs hf hc) rfl) fun D σ H h => ?_
  have h := par_read (by simp [hij, hil, hjl]) h
  obtain ⟨F, ρ, n, nb, x, P, h⟩ := h
  refine ⟨F, ρ, n, nb, x, P, wEs_mono ps (xid x) (fun ds ρ1 h vs H1 n1 s1 r1 => ?_) h⟩
  obtain ⟨hl, h⟩ := h vs H1 n1 s1 r1
  match vs, hl with
  | [v, w, u], _ => exact ⟨v, w, u, rfl, h⟩
theorem XOk.more {x : Xr} {gh : List (V × D)} (h : XOk R C F nb x EX) : XOk R C (F.more gh) nb x EX := fun c l cls d σ ρ' H' n' hx le rl xr => h c l cls d σ ρ' H' n' hx le rl.less xr
theorem own_sub {p0 : Addr} {o : HO} {i : Nat} {d : D} (hl : ρ.length = σ.length) (hi : i < ρ.length) : ∀ b, MM F (ρ.set i (some (true, d))) (σ.set i (some (.ref p0))) b → MM (F.add p0 o) ρ σ b := by
  rintro b (m | ⟨j, y, e1, e2⟩)
  · exact .inl (.inl m)
  · rcases set_get e1 with ⟨rfl, q⟩ | ⟨q, e1⟩
    · rw [List.getElem?_set_self (by rw [← hl]; exact hi)] at e2
      cases e2
      exact .inl (.inr rfl)
    · rw [List.getElem?_set_ne q] at e2
      exact .inr ⟨j, y, e1, e2⟩
theorem parO_read {i j : Nat} {D : Ends} (hi : ∀ {F : FrD} {ρ : Rho} {n : Nat} {H : Hp}, Rl R F ρ n σ H → i < ρ.length) (h : tS R C Γ B EX (.parO i j p q) D σ H) :
    tCons (tO R C Γ B EX p) (tCons (tE R C Γ B EX q) tNil) σ H fun vs H1 => ∃ v w, vs = [v, w] ∧ D.nx ((σ.set i (some v)).set j (some w)) H1 := by
  obtain ⟨F, ρ, n, nb, x, P, h⟩ := h
  simp only [wS] at h
  simp only [cS] at P h
  refine ⟨F, ρ, n, nb, x, P.dn (by omega), wE_mono p (xid x) (fun r ρ1 h => ?_) h⟩
  cases r with
  | sl _ => exact h.elim
  | pr d =>
    refine ⟨d, rfl, fun p0 o H1 n1 rl f0 ne m0 w le => ?_⟩
    refine ⟨F.add p0 o, ρ1, n1, nb, x, ⟨rl, by have := P.le; omega, P.B, P.xo.add f0 P.rl.m0 ne.1 ne.2⟩, wE_mono q (xid x) (fun s ρ2 h v H2 n2 s2 r2 => ?_) h⟩
    obtain ⟨e, ρ3, h, s3, r3⟩ := r2.esc s2.rl h
    have s23 := s2.trans s3
    have hD := rl.addH f0 ne.1 ne.2
    have hD' := s3.rl.addH f0 ne.1 ne.2
    have w' : OwnAt R (MM (F.add p0 o) ρ3 σ) H2 p0 d := w.keep s23.sub s23.ext fun u hu => by rw [hD] at hu; cases hu; exact hD'
    have r4 := s3.rl.storeOwn f0 m0 ne.1 ne.2 (hi s3.rl) w'
    refine ⟨_, _, rfl, h _ _ n2 (r4.store (r3.keep (own_sub s3.rl.len (hi s3.rl)) .refl)) ?_⟩
    have := s23.le
    omega
theorem s_parO {i j : Nat} {x y : Str} {px py pt pt2 : Pos} {kt k2 : Nat} (k : Ctx R C Γ B m ng EX N sc fb X) (hk : sc.kind = .function) (hi : N[i]? = some x) (hj : N[j]? = some y) (hij : i ≠ j) (hx : lclB sc x = true) (hy : lclB sc y = true) (hl : (py.line == px.line) = true)
    (ha : PE X a (tO R C Γ B EX p)) (hb : PE X b (tE R C Γ B EX q)) (hs : noStar [a, b] = true) (hf : [a, b].all (foldedForSure 8) = false) (hc : [a, b].all (constantsAlone 8) = false) :
    PS X (.Assign [.Tuple [.Name x px, .Name y py] kt pt] (.Tuple [a, b] k2 pt2) pos) (tS R C Γ B EX (.parO i j p q)) := by
  have hxy : x ≠ y := fun e => hij (nodup_ix k.nd hi (e ▸ hj))
  have hx := of_decide_eq_true hx
  have hy := of_decide_eq_true hy
  have hq := Bool.and_eq_true_iff.mp (show (notSt a && (notSt b && true)) = true from hs)
  have hq2 := Bool.and_eq_true_iff.mp hq.2
  have base := ps_par (pos := pos) k.calm (k.eN ▸ k.nd) (k.eN ▸ hi) (k.eN ▸ hj) hij (k.esc ▸ hx) (k.esc ▸ hy) (pa_cons ha (pa_cons hb pa_nil (star_cons hq2.1)) (star_cons hq.1)) (sws_two (kt := kt) (pt := pt) (k2 := k2) (pt2 := pt2) (k.esc ▸ hk) (k.esc ▸ hx) (k.esc ▸ hy) hl hxy hs hf hc) rfl
  refine ⟨fun pins s σ H D I h => base.run pins s σ H D I (parO_read (fun rl => ?_) h)⟩
  rw [rl.len, I.len, k.eN]
  exact (List.getElem?_eq_some_iff.mp hi).1
/-! ### x op= e -/
def rAug (R : RP) (op : Operator) : TIp := fun x y H Q => ∃ M d e, Rdb R M H x d ∧ Rdb R M H y e ∧ dAug op d e fun z => ∀ v, Rep R M H v z → Q v H
theorem ip_D {op : Operator} : PIp X op (rAug R op) := by
  intro pins s σ H x y v u Q I rx ry h
  obtain ⟨M, d, e, hx, hy, h⟩ := h
  unfold dAug at h
  split at h
  · cases hx.int; cases hy.int
    exact ip_add pins s σ H _ _ v u Q I rx ry ⟨_, _, rfl, rfl, h _ (.int _)⟩
  · cases hx.int; cases hy.int
    exact ip_sub pins s σ H _ _ v u Q I rx ry ⟨_, _, rfl, rfl, h _ (.int _)⟩
  · obtain ⟨rfl, k1⟩ := hx.str
    obtain ⟨rfl, k2⟩ := hy.str
    exact iop_add_str pins s σ H _ _ v u Q I rx ry ⟨_, _, rfl, rfl, h.1, h.2 _ (.str _ (k1.app k2 h.1))⟩
  · exact h.elim
theorem s_aug {i : Nat} {y : Str} {py : Pos} {op : Operator} (k : Ctx R C Γ B m ng EX N sc fb X) (he : PE X e (tE R C Γ B EX p)) (hi : N[i]? = some y) (ht : tgtB sc fb y = true) : PS X (.AugAssign (.Name y py) op e pos) (tS R C Γ B EX (.aug i op p)) :=
  imS (ps_aug (k.eN ▸ k.nd) (k.eN ▸ hi) (loc_of k ht).1 he (ip_D (R := R)) (loc_of k ht).2) fun D σ H ⟨F, ρ, n, nb, x, P, h⟩ => by
  simp only [wS] at h
  simp only [cS] at P h
  split at h
  · rename_i d e0
    obtain ⟨v0, e1, r0⟩ := P.rl.pv i d e0
    refine ⟨v0, e1, s_one P (Nat.le_refl _) h fun r ρ1 v H1 n1 h s1 r1 => ?_⟩
    obtain ⟨f, m1, h⟩ := r1.use s1.rl h
    refine ⟨_, d, f, .inl (r0.keep s1.sub s1.ext), m1, dAug_mono (fun z hz w rw => ?_) h⟩
    exact hz _ _ n1 (s1.rl.store rw) s1.le
  · exact h.elim
theorem sole {t e : Expr} {l : Nat} {env : Env} : swapsWithSole [t] e l env = swapsWith e (some t) l env := by rw [swapsWithSole]
/-! ### xs[k] = e -/
theorem s_setix {i : Nat} {y : Str} {py p1 : Pos} (ho : PE X (.Name y py) (tVar i)) (hk : PE X b (tE R C Γ B EX q)) (he : PE X e (tE R C Γ B EX p)) (hpl : notSl b = true) (hc : notComp e = true) :
    PS X (.Assign [.Subscript (.Name y py) b p1] e pos) (tS R C Γ B EX (.setix i q p)) := by
  have hg : PG X (.Subscript (.Name y py) b p1) (gSub (tVar i) (tE R C Γ B EX q) rSetL) := pg_sub ho hk set_list (fun v => by cases b <;> first | rfl | cases hpl)
  refine imS (ps_asg he hg (sole.trans (sw_no hc)) rfl rfl) fun D σ H ⟨F, ρ, n, nb, x, P, h⟩ => ?_
  simp only [wS] at h
  simp only [cS] at P h
  refine ⟨F, ρ, n, nb, x, P.dn (by omega), wE_mono p (xid x) (fun r ρ1 h v H1 n1 s1 r1 => ?_) h⟩
  obtain ⟨d, ρ2, ⟨⟨x0, e0⟩, h⟩, s2, r2⟩ := r1.esc s1.rl h
  obtain ⟨a, es, w0, _⟩ := s2.rl.ow i x0 e0
  have s12 := s1.trans s2
  refine ⟨.ref a, es, F, ρ2, n1, nb, x, P.go s12 (by omega), wE_mono q (xid x) (fun s ρ3 h u H3 n3 s3 r3 => ?_) h⟩
  obtain ⟨f, m1, xs, e1, j, mm, rfl, e2, h⟩ := r3.use s3.rl h
  cases m1.int
  obtain ⟨a', es', w, _⟩ := s3.rl.ow i _ e1
  rw [es] at es'; cases es'
  have r4 := r2.keep s3.sub s3.ext
  have ma : MM F ρ3 σ a := .inr ⟨i, _, e1, es⟩
  cases w with
  | lst h1 l1 rr =>
    rename_i vs
    refine ⟨a, vs, j, mm, rfl, rfl, h1, by rw [rr.length]; exact e2, ?_⟩
    obtain ⟨rl2, eM, k2⟩ := s3.rl.mut (o := .lst (vs.set mm v)) e1 es (.lst upd_same (by rw [List.length_set]; exact l1) ((rr.set r4 mm).keep (fun _ z => z) (ext_own ma)))
    exact h _ _ n3 rl2 (by have := (s12.trans s3).le; omega)
/-! ### name = [.. for ..] -/
theorem blkOk_of {own : List (Str × Nat)} {scope : Scope} (h1 : scope.kind = .function) (h2 : (scope.names.all fun y => decide (scope.names.lookup y.1 = some y.2)) = true) (h3 : (own.all fun p => decide (N[p.2]? = some p.1)) = true)
    (h4 : (scope.names.all fun y => !decide (y.2 = .free) || (decide (sc.names.lookup y.1 = some .cell) || decide (sc.names.lookup y.1 = some .free))) = true)
    (h5 : (scope.names.all fun y => !(decide (y.2 = .local) || decide (y.2 = .cell)) || (decide (y.1 ∈ own.map (·.1)) || decide (y.1 ∉ N))) = true) : BlkOk N sc scope own := by
  refine ⟨h1, fun y hy => of_decide_eq_true (List.all_eq_true.mp h2 y hy), fun p hp => of_decide_eq_true (List.all_eq_true.mp h3 p hp), fun y hy e => ?_, fun y hy e => ?_⟩
  · have := List.all_eq_true.mp h4 y hy
    rw [decide_eq_true e] at this
    simpa using this
  · have := List.all_eq_true.mp h5 y hy
    have e' : (decide (y.2 = .local) || decide (y.2 = .cell)) = true := by
      rcases e with e | e
      · rw [decide_eq_true e]; rfl
      · rw [decide_eq_true e, Bool.or_true]
    rw [e'] at this
    simpa using this
theorem s_setLc {i : Nat} {y : Str} {py : Pos} {el tgx iter : Expr} {ifs : List Expr} {scope : Scope} {cpos : Pos} {wi : TI} {gg : TG} {tt : TT} {te : TE} {s0 : S} (k : Ctx R C Γ B m ng EX N sc fb X) (hi : N[i]? = some y) (hy : lclB sc y = true) (hk : sc.kind = .function) (hl : (py.line == cpos.line) = true)
    (ha : (scope.names.any fun (n, k) => n == y && (k == .local || k == .cell)) = false) (hw : PI X tgx iter wi) (ok : BlkOk N sc scope own)
    (hg : ∀ (s : Shared) (H : Hp) (A : Addr) (cl : List (Str × Addr)) (fp : List Addr), PG (X.blk s H scope (compEnvC scope cl A X.env) fp) tgx gg) (ht : ∀ (s : Shared) (H : Hp) (A : Addr) (cl : List (Str × Addr)) (fp : List Addr), PTs (X.blk s H scope (compEnvC scope cl A X.env) fp) ifs tt)
    (he : ∀ (s : Shared) (H : Hp) (A : Addr) (cl : List (Str × Addr)) (fp : List Addr), PE (X.blk s H scope (compEnvC scope cl A X.env) fp) el te) (hf : ∀ x, foldedSetIterable iter X.env x = pure x)
    (hr : ∀ D σ H n, (∀ {F : FrD} {ρ : Rho} {n' : Nat} {H' : Hp}, Rl R F ρ n' σ H' → ρ.length = n) → i < n → tS R C Γ B EX s0 D σ H → tAsg (tLc wi gg tt te (own.map (·.2))) (gName i) D σ H) :
    PS X (.Assign [.Name y py] (.ListComp el [⟨tgx, iter, ifs, 0⟩] scope cpos) pos) (tS R C Γ B EX s0) := by
  have hy := of_decide_eq_true hy
  have base := ps_setLc (spos := pos) k.calm (k.eN ▸ k.nd) (k.eN ▸ hi) (k.esc ▸ hy) (sw_true (k.esc ▸ hk) (k.esc ▸ hy) hl ha) hw (by rw [k.eN, k.esc]; exact ok) hg ht he hf
  refine ⟨fun pins s σ H D I h => base.run pins s σ H D I (hr D σ H N.length (fun rl => by rw [rl.len, I.len, k.eN]) (List.getElem?_eq_some_iff.mp hi).1 h)⟩
theorem s_setLc2 {i : Nat} {y : Str} {py : Pos} {el tgx iter tgx1 iter1 : Expr} {ifs ifs1 : List Expr} {scope : Scope} {ow1 : List Nat} {cpos : Pos} {wi wi1 : TI} {gg gg1 : TG} {tt tt1 : TT} {te : TE} {s0 : S} (k : Ctx R C Γ B m ng EX N sc fb X) (hi : N[i]? = some y) (hy : lclB sc y = true) (hk : sc.kind = .function) (hl : (py.line == cpos.line) = true)
    (ha : (scope.names.any fun (n, k) => n == y && (k == .local || k == .cell)) = false) (hw : PI X tgx iter wi) (ok : BlkOk N sc scope own) (hv : ∀ i ∈ ow1, i ∈ own.map (·.2))
    (hg : ∀ (s : Shared) (H : Hp) (A : Addr) (cl : List (Str × Addr)) (fp : List Addr), PG (X.blk s H scope (compEnvC scope cl A X.env) fp) tgx gg) (ht : ∀ (s : Shared) (H : Hp) (A : Addr) (cl : List (Str × Addr)) (fp : List Addr), PTs (X.blk s H scope (compEnvC scope cl A X.env) fp) ifs tt)
    (hi1 : ∀ (s : Shared) (H : Hp) (A : Addr) (cl : List (Str × Addr)) (fp : List Addr), PI (X.blk s H scope (compEnvC scope cl A X.env) fp) tgx1 iter1 wi1)
    (hg1 : ∀ (s : Shared) (H : Hp) (A : Addr) (cl : List (Str × Addr)) (fp : List Addr), PG (X.blk s H scope (compEnvC scope cl A X.env) fp) tgx1 gg1) (ht1 : ∀ (s : Shared) (H : Hp) (A : Addr) (cl : List (Str × Addr)) (fp : List Addr), PTs (X.blk s H scope (compEnvC scope cl A X.env) fp) ifs1 tt1)
    (he : ∀ (s : Shared) (H : Hp) (A : Addr) (cl : List (Str × Addr)) (fp : List Addr), PE (X.blk s H scope (compEnvC scope cl A X.env) fp) el te) (hf : ∀ x, foldedSetIterable iter X.env x = pure x) (hf1 : ∀ env x, foldedSetIterable iter1 env x = pure x)
    (hr : ∀ D σ H n, (∀ {F : FrD} {ρ : Rho} {n' : Nat} {H' : Hp}, Rl R F ρ n' σ H' → ρ.length = n) → i < n → tS R C Γ B EX s0 D σ H → tAsg (tLc2 wi gg tt wi1 gg1 tt1 te (own.map (·.2)) ow1) (gName i) D σ H) :
    PS X (.Assign [.Name y py] (.ListComp el [⟨tgx, iter, ifs, 0⟩, ⟨tgx1, iter1, ifs1, 0⟩] scope cpos) pos) (tS R C Γ B EX s0) := by
  have hy := of_decide_eq_true hy
  have base := ps_setLc2 (spos := pos) k.calm (k.eN ▸ k.nd) (k.eN ▸ hi) (k.esc ▸ hy) (sw_true (k.esc ▸ hk) (k.esc ▸ hy) hl ha) hw (by rw [k.eN, k.esc]; exact ok) hv hg ht hi1 hg1 ht1 he hf hf1
  refine ⟨fun pins s σ H D I h => base.run pins s σ H D I (hr D σ H N.length (fun rl => by rw [rl.len, I.len, k.eN]) (List.getElem?_eq_some_iff.mp hi).1 h)⟩
/-! ### for -/
theorem s_for {iter : Expr} (k : Ctx R C Γ B m ng EX N sc fb X) (hp : PassesOwn (model X.prog X.w) X.A X.env X.xe) (hi : PI X tg iter (tI R C Γ B EX it)) (hg : PG X tg (tG R g)) (hb : PSs X sts (tSs R C Γ B EX ss)) (hf : ∀ x, foldedSetIterable iter X.env x = pure x) :
    PS X (.For tg iter sts [] pos) (tS R C Γ B EX (.for g it ss)) := imS (ps_for hp k.calm hi hg hb hf) fun D σ H ⟨F, ρ, n, nb, x, P, h⟩ => by
  simp only [wS] at h
  simp only [cS] at P h
  generalize hcb : cSs Γ ss = cb at P h
  refine ⟨F, ρ, n, nb, x, P.dn (Nat.le_add_right _ _), wI_mono it (xid x) (fun ds ρ1 h J gh H1 n1 s1 hgh w => ?_) h⟩
  obtain ⟨W, w0, step, fin⟩ := h
  have bnd : ∀ i, i < ds.length → n1 + i * cb + cb ≤ n + (cI Γ it + 2 ^ 63 * cb) := fun i hi => by
    have h1 : i * cb + cb ≤ 2 ^ 63 * cb := by
      rw [← Nat.succ_mul]
      exact Nat.mul_le_mul_right _ (Nat.le_trans hi w.len)
    have := s1.le; omega
  refine ⟨fun i mm σ H => mm = ds.length - i ∧ i ≤ ds.length ∧ ∃ ρ2 n2, Rl R (F.more gh) ρ2 n2 σ H ∧ n2 ≤ n1 + i * cb ∧ W i ρ2, ⟨ds.length, by simp, Nat.zero_le _, ρ1, n1, s1.rl.more hgh, by simp, w0⟩, ?_⟩
  rintro i mm σ2 H2 ⟨rfl, hi, ρ2, n2, rl, hn, hW⟩
  have gh' : ∀ p ∈ gh, Rep R (MM (F.more gh) ρ2 σ2) H2 p.1 p.2 := fun p hp => rl.gh p (List.mem_append_left _ hp)
  by_cases hlt : i < ds.length
  · right
    have hd : ds[i]? = some ds[i] := List.getElem?_eq_getElem hlt
    obtain ⟨go, yl⟩ := w.go i _ H2 ds[i] gh' hd rl.fm
    refine ⟨go, fun σ H => ∃ ρ2 n2, Rl R (F.more gh) ρ2 n2 σ H ∧ n2 ≤ n1 + (i + 1) * cb ∧ W (i + 1) ρ2, fun σ' H' ⟨r', k', q⟩ => ⟨ds.length - (i + 1), by omega, rfl, hlt, r', k', q⟩, fun xv H' y => ?_⟩
    obtain ⟨sm, rx⟩ := yl xv H' y
    refine ⟨F.more gh, ρ2, n2, ds[i], rl.same sm, rx, setG_mono g (fun ρ3 h3 σ3 st => ?_) (step i ds[i] ρ2 hd hW)⟩
    have b1 := bnd i hlt
    have hP := P.le
    refine ⟨F.more gh, ρ3, n2, nb, x, ⟨st.rl, by rw [hcb]; omega, P.B, P.xo.more⟩, wSs_up h3 ⟨fun ρ4 q σ4 H4 n4 rl4 le4 => ⟨ρ4, n4, rl4, ?_, q⟩, fun d q v H' n' le kk dk rp => q v H' n' le kk dk rp, fun ρ4 q σ4 H4 n4 rl4 le4 => q σ4 H4 n4 rl4.less ?_, fun ρ4 q σ4 H4 n4 rl4 le4 => ⟨ρ4, n4, rl4, ?_, q⟩⟩⟩
    · rw [hcb] at le4; rw [Nat.succ_mul]; omega
    · rw [hcb] at le4; omega
    · rw [hcb] at le4; rw [Nat.succ_mul]; omega
  · left
    have ei : i = ds.length := by omega
    subst ei
    refine ⟨w.stop _ _ H2 gh' (Nat.le_refl _), fin ρ2 hW _ _ n2 rl.less ?_⟩
    have h1 : ds.length * cb ≤ 2 ^ 63 * cb := Nat.mul_le_mul_right _ w.len
    have := s1.le; omega
/-! ### while -/
theorem s_while {c : Expr} (hp : PassesOwn (model X.prog X.w) X.A X.env X.xe) (hc : PT X c (tT R C Γ B EX p)) (hb : PSs X sts (tSs R C Γ B EX ss)) : PS X (.While c sts [] pos) (tS R C Γ B EX (.whl p ss)) := imS (ps_while hp hc hb) fun D σ H ⟨F, ρ, n, nb, x, P, h⟩ => by
  simp only [wS] at h
  simp only [cS] at P h
  generalize hcb : cE Γ p + cSs Γ ss = cb at P h
  obtain ⟨W, ⟨m0, hm0, w0⟩, step⟩ := h
  refine ⟨fun mm σ H => ∃ ρ2 n2, Rl R F ρ2 n2 σ H ∧ mm ≤ m0 ∧ n2 + mm * cb ≤ n + m0 * cb ∧ W mm ρ2, ⟨m0, ρ, n, P.rl, Nat.le_refl _, Nat.le_refl _, w0⟩, ?_⟩
  rintro mm σ1 H1 ⟨ρ1, n1, rl, hmm, hn, hW⟩
  have hb1 : m0 * cb + cb ≤ 2 ^ 100 * cb := by
    rw [← Nat.succ_mul]
    exact Nat.mul_le_mul_right _ hm0
  have hP := P.le
  refine ⟨F, ρ1, n1, nb, x, ⟨rl, by omega, P.B, P.xo⟩, wT_mono p (xid x) (fun z ρ2 h2 H2 n2 s2 => ?_) (step mm ρ1 hW)⟩
  have hs2 := s2.le
  dsimp only
  split
  · rename_i hz
    rw [if_pos hz] at h2
    refine ⟨fun σ H => ∃ ρ3 n3 m', m' < mm ∧ Rl R F ρ3 n3 σ H ∧ n3 + m' * cb ≤ n + m0 * cb ∧ W m' ρ3, fun σ' H' ⟨ρ3, n3, m', lt, r3, l3, w3⟩ => ⟨m', lt, ρ3, n3, r3, by omega, l3, w3⟩, ?_⟩
    have key : ∀ {n4 m' : Nat}, m' < mm → n4 ≤ n2 + cSs Γ ss → n4 + m' * cb ≤ n + m0 * cb := fun {n4 m'} lt le => by
      have : m' * cb + cb ≤ mm * cb := by
        rw [← Nat.succ_mul]
        exact Nat.mul_le_mul_right _ lt
      omega
    refine ⟨F, ρ2, n2, nb, x, ⟨s2.rl, by omega, P.B, P.xo⟩, wSs_up h2 ⟨fun ρ4 ⟨m', lt, q⟩ σ4 H4 n4 rl4 le4 => ⟨ρ4, n4, m', lt, rl4, key lt le4, q⟩, fun d q => q, fun ρ4 q σ4 H4 n4 rl4 le4 => q σ4 H4 n4 rl4 (by omega), fun ρ4 ⟨m', lt, q⟩ σ4 H4 n4 rl4 le4 => ⟨ρ4, n4, m', lt, rl4, key lt le4, q⟩⟩⟩
  · rename_i hz
    rw [if_neg hz] at h2
    exact h2 _ _ n2 s2.rl (by omega)
end
end DL

set_option Elab.async false
set_option linter.all false
set_option maxRecDepth 100000
set_option maxHeartbeats 4000000
namespace DL
open PySem L2
/-! ### the language against the program's text: a decidable check -/
def visB (sc : Scope) (x : Str) : Bool := decide (sc.names.lookup x = some .local) || (decide (sc.names.lookup x = some .cell) || decide (sc.names.lookup x = some .free))
def globB (sc : Scope) (x : Str) : Bool := decide (sc.names.lookup x = some .globalImplicit) && !(x == ("__debug__" : Str))
def sokB (x : Str) : Bool := decide (x.length ≤ sizeLine) && PyData.strOk x
def plainT : Expr → Bool
  | .UnaryOp .Not _ _ | .BoolOp .. | .IfExp .. | .Compare .. => false
  | _ => true
def notSet : Expr → Bool
  | .Set .. => false
  | _ => true
def blkB (N : List Str) (sc scope : Scope) (own : List (Str × Nat)) : Bool :=
  decide (scope.kind = .function) && ((scope.names.all fun y => decide (scope.names.lookup y.1 = some y.2)) && ((own.all fun p => decide (N[p.2]? = some p.1)) &&
    ((scope.names.all fun y => !decide (y.2 = .free) || (decide (sc.names.lookup y.1 = some .cell) || decide (sc.names.lookup y.1 = some .free))) &&
      (scope.names.all fun y => !(decide (y.2 = .local) || decide (y.2 = .cell)) || (decide (y.1 ∈ own.map (·.1)) || decide (y.1 ∉ N))))))
/-- the calls that the one-argument rules know -/
def bltOkIds : List String := ["len", "all", "any", "repr", "int", "list", "tuple", "max", "min", "str", "sorted"]
def isStrE : E → Bool
  | .str _ => true
  | _ => false
def chkYes : E → Bool
  | .bl true => true
  | _ => false
section
variable (Γ : Gm) (m ng : Nat) (N : List Str)
mutual
def chkX (sc : Scope) (fb : Str → Bool) (t : Bool) : E → Expr → Bool
  | .int i, a => (!t || plainT a) && (match a with
    | .Constant (.int j) _ _ => decide (i = j)
    | _ => false)
  | .bl b, a => (!t || plainT a) && (match a with
    | .Constant (.bool c) _ _ => b == c
    | _ => false)
  | .non, a => (!t || plainT a) && (match a with
    | .Constant .none _ _ => true
    | _ => false)
  | .str y, a => (!t || plainT a) && (match a with
    | .Constant (.str z) _ _ => decide (y = z) && sokB y
    | _ => false)
  | .var i, a => (!t || plainT a) && (match a with
    | .Name x _ => decide (N[i]? = some x) && (visB sc x && (!(x == ("__debug__" : Str)) && !(x == ("__classdict__" : Str))))
    | _ => false)
  | .glb g, a => (!t || plainT a) && (match a with
    | .Name x _ => decide (g < ng) && (decide (Γ.gname g = x) && globB sc x)
    | _ => false)
  | .bin op p q, a => (!t || plainT a) && (match a with
    | .BinOp x o y _ => decide (op = o) && (chkX sc fb false p x && chkX sc fb false q y)
    | _ => false)
  | .neg p, a => (!t || plainT a) && (match a with
    | .UnaryOp .USub x _ => chkX sc fb false p x
    | _ => false)
  | .not p, a => match a with
    | .UnaryOp .Not x _ => chkX sc fb t p x
    | _ => false
  | .and p q, a => match a with
    | .BoolOp .And (x :: y :: rest) pos => chkX sc fb t p x && (match rest with
      | [] => chkX sc fb t q y
      | z :: zs => chkX sc fb t q (.BoolOp .And (y :: z :: zs) pos))
    | _ => false
  | .or p q, a => match a with
    | .BoolOp .Or (x :: y :: rest) pos => chkX sc fb t p x && (match rest with
      | [] => chkX sc fb t q y
      | z :: zs => chkX sc fb t q (.BoolOp .Or (y :: z :: zs) pos))
    | _ => false
  | .cmp op p q, a => match a with
    | .Compare x [o] [y] _ => decide (op = o) && (!behindInMarks o y && (chkX sc fb false p x && chkX sc fb false q y))
    | _ => false
  | .cmp2 o1 o2 p q r, a => match a with
    | .Compare x [o, o'] [y, z] _ => decide (o1 = o) && (decide (o2 = o') && (!lastMarks [o, o'] [y, z] && (chkX sc fb false p x && (chkX sc fb false q y && chkX sc fb false r z))))
    | _ => false
  | .ite c p q, a => match a with
    | .IfExp tt x y _ => !t && (chkX sc fb true c tt && (chkX sc fb false p x && chkX sc fb false q y))
    | _ => false
  | .tup ps, a => (!t || plainT a) && (match a with
    | .Tuple es _ _ => chkEs sc fb ps es
    | _ => false)
  | .lst ps, a => (!t || plainT a) && (match a with
    | .List es _ => chkEs sc fb ps es
    | _ => false)
  | .dct0, a => (!t || plainT a) && (match a with
    | .Dict [] [] _ => true
    | _ => false)
  | .dct1 p q, a => (!t || plainT a) && (match a with
    | .Dict [some x] [y] _ => chkX sc fb false p x && chkX sc fb false q y
    | _ => false)
  | .ix p q, a => (!t || plainT a) && (match a with
    | .Subscript x y _ => notSl y && (chkX sc fb false p x && chkX sc fb false q y)
    | _ => false)
  | .slL p q, a => (!t || plainT a) && (match a with
    | .Subscript x (.Slice (some y) none none _) _ => chkX sc fb false p x && chkX sc fb false q y
    | _ => false)
  | .slU p q, a => (!t || plainT a) && (match a with
    | .Subscript x (.Slice none (some y) none _) _ => chkX sc fb false p x && chkX sc fb false q y
    | _ => false)
  | .slLU p q r, a => (!t || plainT a) && (match a with
    | .Subscript x (.Slice (some y) (some z) none _) _ => chkX sc fb false p x && (chkX sc fb false q y && chkX sc fb false r z)
    | _ => false)
  | .slR p, a => (!t || plainT a) && (match a with
    | .Subscript x (.Slice none none (some (.UnaryOp .USub (.Constant (.int 1) _ _) _)) _) _ => chkX sc fb false p x
    | _ => false)
  | .isi p T, a => (!t || plainT a) && (match a with
    | .Call (.Name f _) [x, .Name y _] [] _ => decide (f = "isinstance") && (decide (y = Str.ofString T) && (isiTys.contains T && (globB sc f && (globB sc y && (notSt x && chkX sc fb false p x)))))
    | _ => false)
  | .call f ps, a => (!t || plainT a) && (match a with
    | .Call (.Name y _) (e :: es) [] _ => decide (f < m) && (decide (Γ.fk f = .fn) && (decide (Γ.fname f = y) && (globB sc y && (noStar (e :: es) && chkEs sc fb ps (e :: es)))))
    | _ => false)
  | .callk j ps qs, a => (!t || plainT a) && (match a with
    | .Call (.Name y _) es kws _ => decide ((Γ.ks j).f < m) && (decide (Γ.fk (Γ.ks j).f = .fn) && (decide ((Γ.ks j).perm.length = Γ.arity (Γ.ks j).f) && (decide (Γ.fname (Γ.ks j).f = y) && (globB sc y && (noStar es && (chkEs sc fb ps es && (chkKs sc fb qs kws &&
        ((kws.all fun k => (kwName k).isSome) && decide (kws.filterMap kwName = (Γ.ks j).ks)))))))))
    | _ => false)
  | .blt id ps, a => (!t || plainT a) && (match a with
    | .Call (.Name y _) (e :: es) [] _ => bltOkIds.contains id && (decide (y = Str.ofString id) && (globB sc y && (noStar (e :: es) && chkEs sc fb ps (e :: es))))
    | _ => false)
  | .mth id p ps, a => (!t || plainT a) && (match a with
    | .Call (.Attribute o y ap) (e :: es) [] cp => mthIds.contains id && (decide (y = mN id) && (notBase o && (noStar (e :: es) && (decide ((e :: es).length < 30) && ((ap.endLine == cp.line) && (chkX sc fb false p o && chkEs sc fb ps (e :: es)))))))
    | _ => false)
  | .fld p c j, a => (!t || plainT a) && (match a with
    | .Attribute o y _ => decide (c < Γ.ncl) && (decide ((Γ.cfl c)[j]? = some y) && (notBase o && chkX sc fb false p o))
    | _ => false)
  | .appn c f ps, a => (!t || plainT a) && (match a with
    | .Call (.Name y _) (e :: es) [] _ => decide (f < m) && (decide (Γ.fk f = .new c) && (decide (Γ.fname f = y) && (globB sc y && (noStar (e :: es) && chkEs sc fb ps (e :: es)))))
    | _ => false)
  | .apps c f p q, a => (!t || plainT a) && (match a with
    | .Subscript o i _ => decide (f < m) && (decide (Γ.fk f = .mth c) && (decide (Γ.fname f = "__getitem__") && (notSl i && (chkX sc fb false p o && chkX sc fb false q i))))
    | _ => false)
  | .appc c f p q, a => (!t || plainT a) && (match a with
    | .Compare l [.In] [o] _ => decide (f < m) && (decide (Γ.fk f = .mth c) && (decide (Γ.fname f = "__contains__") && (!behindInMarks .In o && (chkX sc fb false p l && chkX sc fb false q o))))
    | _ => false)
  | .tupR p, a => (!t || plainT a) && (match a with
    | .Call (.Name y _) [.Call (.Name z _) [e] [] _] [] _ => decide (y = "tuple") && (decide (z = "range") && (globB sc y && (globB sc z && (notSt e && chkX sc fb false p e))))
    | _ => false)
  | .lstR p, a => (!t || plainT a) && (match a with
    | .Call (.Name y _) [.Call (.Name z _) [e] [] _] [] _ => decide (y = "list") && (decide (z = "range") && (globB sc y && (globB sc z && (notSt e && chkX sc fb false p e))))
    | _ => false)
  | .lenm c f p, a => (!t || plainT a) && (match a with
    | .Call (.Name y _) [e] [] _ => decide (f < m) && (decide (Γ.fk f = .mth c) && (decide (Γ.fname f = "__len__") && (decide (y = "len") && (globB sc y && (notSt e && chkX sc fb false p e)))))
    | _ => false)
  | .appe c f p q, a => (!t || plainT a) && (match a with
    | .Compare x [.Eq] [y] _ => decide (f < m) && (decide (Γ.fk f = .mth c) && (decide (Γ.fname f = "__eq__") && (!behindInMarks .Eq y && (chkX sc fb false p x && chkX sc fb false q y))))
    | _ => false)
  | .newk c j ps, a => (!t || plainT a) && (match a with
    | .Call (.Name y _) [] kws _ => decide ((Γ.ks j).f < m) && (decide (Γ.fk (Γ.ks j).f = .new c) && (decide ((Γ.ks j).perm.length = Γ.arity (Γ.ks j).f) && (decide (Γ.fname (Γ.ks j).f = y) && (decide ((Γ.ks j).np = 0) && (globB sc y && (chkKs sc fb ps kws && ((kws.all fun k => (kwName k).isSome) && decide (kws.filterMap kwName = (Γ.ks j).ks))))))))
    | _ => false)
  | .appm c f p ps, a => (!t || plainT a) && (match a with
    | .Call (.Attribute o y ap) es [] cp => decide (f < m) && (decide (Γ.fk f = .mth c) && (decide (c < Γ.ncl) && (decide (Γ.fname f = y) && (decide (y ∉ Γ.cfl c) && (notBase o && (noStar es && (decide (es.length < 30) && ((ap.endLine == cp.line) && (chkX sc fb false p o && chkEs sc fb ps es)))))))))
    | _ => false)
  | .appk c j p ps, a => (!t || plainT a) && (match a with
    | .Call (.Attribute o y ap) [] kws cp => decide ((Γ.ks j).f < m) && (decide (Γ.fk (Γ.ks j).f = .mth c) && (decide ((Γ.ks j).perm.length = Γ.arity (Γ.ks j).f) && (decide (c < Γ.ncl) && (decide (Γ.fname (Γ.ks j).f = y) && (decide (y ∉ Γ.cfl c) && (decide ((Γ.ks j).np = 1) && (notBase o && (decide (kws.length < 29) && ((ap.endLine == cp.line) &&
        ((kws.all fun k => (kwName k).isSome) && (decide (kws.filterMap kwName = (Γ.ks j).ks) && (chkX sc fb false p o && chkKs sc fb ps kws))))))))))))
    | _ => false)
  | .mut id i ps, a => (!t || plainT a) && (match a with
    | .Call (.Attribute (.Name x _) y ap) es [] cp => mutIds.contains id && (decide (y = mN id) && (noStar es && (decide (es.length < 30) && ((ap.endLine == cp.line) && ((decide (N[i]? = some x) && (visB sc x && (!(x == ("__debug__" : Str)) && !(x == ("__classdict__" : Str))))) && chkEs sc fb ps es)))))
    | _ => false)
  | .lc elt g it cond own, a => (!t || plainT a) && (match a with
    | .ListComp el [⟨tg, iter, ifs, z⟩] scope _ => decide (z = 0) && (blkB N sc scope own && ((g.sl.all fun i => decide (i ∈ own.map (·.2))) && (notSet iter && (chkI sc fb it tg iter && (chkG N (relS scope sc) (fun x => scope.names.lookup x == some .cell) g tg &&
        ((match ifs with
          | [] => chkYes cond
          | [c] => chkX (relS scope sc) (fun x => scope.names.lookup x == some .cell) true cond c
          | _ => false) && chkX (relS scope sc) (fun x => scope.names.lookup x == some .cell) false elt el))))))
    | _ => false)
  | .lc2 elt g it cond g1 it1 cond1 own ow1, a => (!t || plainT a) && (match a with
    | .ListComp el [⟨tg, iter, ifs, z⟩, ⟨tg1, iter1, ifs1, z1⟩] scope _ => decide (z = 0) && (decide (z1 = 0) && (blkB N sc scope own && ((g.sl.all fun i => decide (i ∈ own.map (·.2))) && ((g1.sl.all fun i => decide (i ∈ ow1)) && ((ow1.all fun i => decide (i ∈ own.map (·.2))) &&
        (notSet iter && (notSet iter1 && (chkI sc fb it tg iter && (chkG N (relS scope sc) (fun x => scope.names.lookup x == some .cell) g tg && (chkI (relS scope sc) (fun x => scope.names.lookup x == some .cell) it1 tg1 iter1 && (chkG N (relS scope sc) (fun x => scope.names.lookup x == some .cell) g1 tg1 &&
        ((match ifs with
          | [] => chkYes cond
          | [c] => chkX (relS scope sc) (fun x => scope.names.lookup x == some .cell) true cond c
          | _ => false) && ((match ifs1 with
          | [] => chkYes cond1
          | [c] => chkX (relS scope sc) (fun x => scope.names.lookup x == some .cell) true cond1 c
          | _ => false) && chkX (relS scope sc) (fun x => scope.names.lookup x == some .cell) false elt el)))))))))))))
    | _ => false)
  | .propm c f p, a => (!t || plainT a) && (match a with
    | .Attribute o y _ => decide (f < m) && (decide (Γ.fk f = .prp c) && (decide (c < Γ.ncl) && (decide (Γ.fname f = y) && (notBase o && chkX sc fb false p o))))
    | _ => false)
  | .cm c f ps, a => (!t || plainT a) && (match a with
    | .Call (.Attribute (.Name y _) nm ap) (e :: es) [] cp => decide (f < m) && (decide (Γ.fk f = .cm c) && (decide (c < Γ.ncl) && (decide (Γ.cnm c = y) && (decide (Γ.fname f = nm) && (globB sc y && (noStar (e :: es) && (decide ((e :: es).length < 30) && ((ap.endLine == cp.line) && chkEs sc fb ps (e :: es)))))))))
    | _ => false)
  | .cmk c j ps, a => (!t || plainT a) && (match a with
    | .Call (.Attribute (.Name y _) nm ap) [] kws cp => decide ((Γ.ks j).f < m) && (decide (Γ.fk (Γ.ks j).f = .cm c) && (decide ((Γ.ks j).perm.length = Γ.arity (Γ.ks j).f) && (decide (c < Γ.ncl) && (decide (Γ.cnm c = y) && (decide (Γ.fname (Γ.ks j).f = nm) && (decide ((Γ.ks j).np = 1) && (globB sc y && (decide (kws.length < 29) && ((ap.endLine == cp.line) &&
        ((kws.all fun k => (kwName k).isSome) && (decide (kws.filterMap kwName = (Γ.ks j).ks) && chkKs sc fb ps kws)))))))))))
    | _ => false)
  | .appv i c f ps, a => (!t || plainT a) && (match a with
    | .Call (.Name y _) (e :: es) [] _ => decide (f < m) && (decide (Γ.fk f = .new c) && (decide (c < Γ.ncl) && (decide (N[i]? = some y) && (visB sc y && (!(y == ("__debug__" : Str)) && (!(y == ("__classdict__" : Str)) && (noStar (e :: es) && chkEs sc fb ps (e :: es))))))))
    | _ => false)
  | .appb op c f p q, a => (!t || plainT a) && (match a with
    | .BinOp x o y _ => decide (op = o) && (decide (f < m) && (decide (Γ.fk f = .mth c) && (decide (c < Γ.ncl) && (decide (Γ.fname f = PySem.dunder op.info.2) && (chkX sc fb false p x && chkX sc fb false q y)))))
    | _ => false)
  | .appq ne c f p q, a => match a with
    | .Compare x [o] [y] _ => decide (o = opQ ne) && (decide (f < m) && (decide (Γ.fk f = .mth c) && (decide (c < Γ.ncl) && (decide (Γ.fname f = "__eq__") && (!behindInMarks (opQ ne) y && (chkX sc fb false p x && chkX sc fb false q y))))))
    | _ => false
  | .isc c p, a => (!t || plainT a) && (match a with
    | .Call (.Name f _) [x, .Name y _] [] _ => decide (f = "isinstance") && (decide (c < Γ.ncl) && (decide (Γ.cnm c = y) && (globB sc f && (globB sc y && (notSt x && chkX sc fb false p x)))))
    | _ => false)
  | .fstr ps, a => (!t || plainT a) && (match a with
    | .JoinedStr (v1 :: v2 :: rest) _ => chkFs sc fb ps (v1 :: v2 :: rest)
    | _ => false)
  | .ownd _, _ => false
def chkEs (sc : Scope) (fb : Str → Bool) : Es → List Expr → Bool
  | .nil, es => es.isEmpty
  | .cons p ps, es => match es with
    | [] => false
    | a :: es => notSt a && (chkX sc fb false p a && chkEs sc fb ps es)
  | .star p ps, es => match es with
    | .Starred a _ :: es => chkX sc fb false p a && chkEs sc fb ps es
    | _ => false
def chkFs (sc : Scope) (fb : Str → Bool) : Es → List Expr → Bool
  | .nil, es => es.isEmpty
  | .star _ _, _ => false
  | .cons p ps, es => match es with
    | [] => false
    | a :: es => (match a with
      | .FormattedValue e c none _ => decide (c = -1) && chkX sc fb false p e
      | .Constant c x y => isStrE p && chkX sc fb false p (.Constant c x y)
      | _ => false) && chkFs sc fb ps es
def chkKs (sc : Scope) (fb : Str → Bool) : Es → List Keyword → Bool
  | .nil, es => es.isEmpty
  | .cons p ps, es => match es with
    | [] => false
    | a :: es => chkX sc fb false p (kwExpr a) && chkKs sc fb ps es
  | .star _ _, _ => false
def chkI (sc : Scope) (fb : Str → Bool) : I → Expr → Expr → Bool
  | .ov p, _, a => chkX sc fb false p a
  | .rng p, _, a => match a with
    | .Call (.Name f _) [x] [] _ => decide (f = "range") && (globB sc f && (notSt x && chkX sc fb false p x))
    | _ => false
  | .rng2 p q, _, a => match a with
    | .Call (.Name f _) [x, y] [] _ => decide (f = "range") && (globB sc f && (notSt x && (notSt y && (chkX sc fb false p x && chkX sc fb false q y))))
    | _ => false
  | .zip p q, tg, a => match tg with
    | .Tuple _ _ _ => (match a with
      | .Call (.Name f _) [x, y] [] _ => decide (f = "zip") && (globB sc f && (notSt x && (notSt y && (chkX sc fb false p x && chkX sc fb false q y))))
      | _ => false)
    | _ => false
  | .enm p, tg, a => match tg with
    | .Tuple _ _ _ => (match a with
      | .Call (.Name f _) [x] [] _ => decide (f = "enumerate") && (globB sc f && (notSt x && chkX sc fb false p x))
      | _ => false)
    | _ => false
end
end
end DL

set_option Elab.async false
set_option linter.all false
set_option maxRecDepth 100000
set_option maxHeartbeats 4000000
namespace DL
open PySem L2
theorem plain_true {a : Expr} {env : Env} (h : plainT a = true) (whole : Sem Value) : PySem.isTrue a env whole = (do let v ← whole; standAt a.pos; holding [v] (truthy v)) := by
  cases a with
  | UnaryOp op x p => cases op <;> first | rfl | cases h
  | BoolOp => cases h
  | IfExp => cases h
  | Compare => cases h
  | _ => rfl
theorem and2 {a b : Bool} (h : (a && b) = true) : a = true ∧ b = true := Bool.and_eq_true_iff.mp h
theorem notB {a : Bool} (h : (!a) = true) : a = false := by cases a <;> first | rfl | cases h
theorem gl_of {sc : Scope} {x : Str} {X : Cx} (hs : X.env.scope = sc) (h : globB sc x = true) : Gl X x ∧ (x == ("__debug__" : Str)) = false := by
  obtain ⟨h1, h2⟩ := and2 h
  subst hs
  have h1 : X.env.scope.names.lookup x = some .globalImplicit := of_decide_eq_true h1
  exact ⟨h1, notB h2⟩
theorem vis_of {sc : Scope} {x : Str} {X : Cx} (hs : X.env.scope = sc) (h : visB sc x = true) : Vis X.env.scope x := by
  subst hs
  rcases Bool.or_eq_true_iff.mp h with h | h
  · exact .inl (of_decide_eq_true h)
  · rcases Bool.or_eq_true_iff.mp h with h | h
    · exact .inr (.inl (of_decide_eq_true h))
    · exact .inr (.inr (of_decide_eq_true h))
theorem sub_ok {b : Expr} (h : notSl b = true) : SubOk b := fun o i => by cases b <;> first | (with_unfolding_all rfl) | cases h
theorem plain_ix {b : Expr} (h : notSl b = true) : PlainIx b := fun o i => by cases b <;> first | rfl | cases h
theorem fold_of {e : Expr} {env : Env} (h : notSet e = true) (x : Value) : foldedSetIterable e env x = pure x := by
  cases e <;> first | rfl | cases h
section
variable {R : RP} {C : XCl} {Γ : Gm} {B m ng : Nat} {N : List Str}
/-- a word of the language is understood, as a value and as a test -/
def Good (R : RP) (C : XCl) (Γ : Gm) (B m ng : Nat) (N : List Str) (e : E) : Prop := ∀ {EX : WX} {sc : Scope} {fb : Str → Bool} {X : Cx}, Ctx R C Γ B m ng EX N sc fb X →
  (∀ a, chkX Γ m ng N sc fb false e a = true → PE X a (tE R C Γ B EX e)) ∧ ∀ a, chkX Γ m ng N sc fb true e a = true → PT X a (tT R C Γ B EX e)
def GoodEs (R : RP) (C : XCl) (Γ : Gm) (B m ng : Nat) (N : List Str) (ps : Es) : Prop := ∀ {EX : WX} {sc : Scope} {fb : Str → Bool} {X : Cx}, Ctx R C Γ B m ng EX N sc fb X →
  (∀ es, chkEs Γ m ng N sc fb ps es = true → noStar es = true → PA X es (tEs R C Γ B EX ps) ∧ PA X es (tAs R C Γ B EX ps)) ∧ (∀ kws, chkKs Γ m ng N sc fb ps kws = true → PK X kws (tAs R C Γ B EX ps)) ∧
  (∀ es, chkEs Γ m ng N sc fb ps es = true → PA X es (tEs R C Γ B EX ps)) ∧ ∀ es, chkFs Γ m ng N sc fb ps es = true → PJ X es (tsP R C Γ B EX ps)
def GoodI (R : RP) (C : XCl) (Γ : Gm) (B m ng : Nat) (N : List Str) (it : I) : Prop := ∀ {EX : WX} {sc : Scope} {fb : Str → Bool} {X : Cx}, Ctx R C Γ B m ng EX N sc fb X →
  ∀ tg a, chkI Γ m ng N sc fb it tg a = true → PI X tg a (tI R C Γ B EX it)
theorem leaf {e : E} (hE : ∀ {EX : WX} {sc : Scope} {fb : Str → Bool} {X : Cx}, Ctx R C Γ B m ng EX N sc fb X → ∀ a, chkX Γ m ng N sc fb false e a = true → PE X a (tE R C Γ B EX e))
    (eq : ∀ sc fb a, chkX Γ m ng N sc fb true e a = (plainT a && chkX Γ m ng N sc fb false e a)) (hw : ∀ x ρ Q, wT Γ x e ρ Q = wE Γ x e ρ fun r ρ1 => useR ρ1 r fun d => ∃ b, d.truth = some b ∧ Q b ρ1) : Good R C Γ B m ng N e := fun k =>
  ⟨hE k, fun a h => by
    rw [eq] at h
    obtain ⟨h1, h2⟩ := and2 h
    exact t_val k.eK (hE k a h2) (plain_true h1) hw⟩
/-- the facts of a comprehension -/
structure LcF (R : RP) (C : XCl) (Γ : Gm) (B m ng : Nat) (N : List Str) (EX : WX) (sc : Scope) (X : Cx) (elt : E) (g : G) (it : I) (cond : E) (own : List (Str × Nat)) (el tgx iter : Expr) (ifs : List Expr) (scope : Scope) : Prop where
  it_ : PI X tgx iter (tI R C Γ B EX it)
  ok : BlkOk N sc scope own
  sl : ∀ i ∈ g.sl, i ∈ own.map (·.2)
  g_ : ∀ (s : Shared) (H : Hp) (A : Addr) (cl : List (Str × Addr)) (fp : List Addr), PG (X.blk s H scope (compEnvC scope cl A X.env) fp) tgx (tG R g)
  t_ : ∀ (s : Shared) (H : Hp) (A : Addr) (cl : List (Str × Addr)) (fp : List Addr), PTs (X.blk s H scope (compEnvC scope cl A X.env) fp) ifs (tT R C Γ B NoE cond)
  e_ : ∀ (s : Shared) (H : Hp) (A : Addr) (cl : List (Str × Addr)) (fp : List Addr), PE (X.blk s H scope (compEnvC scope cl A X.env) fp) el (tE R C Γ B NoE elt)
  f_ : ∀ x, foldedSetIterable iter X.env x = pure x
theorem imTs {X : Cx} {e : List Expr} {t t' : TT} (h : PTs X e t) (k : ∀ σ H Q, t' σ H Q → t σ H Q) : PTs X e t' := ⟨fun pins s σ H Q I q => h.run pins s σ H Q I (k σ H Q q)⟩
theorem yes_pts {X : Cx} {EX : WX} {c : E} (h : chkYes c = true) : PTs X [] (tT R C Γ B EX c) := imTs pts_nil fun σ H Q ⟨F, ρ, n, nb, x, P, h'⟩ => by
  cases c with
  | bl b =>
    cases b with
    | true =>
      simp only [wT, wE, useR, D.truth] at h'
      obtain ⟨b, e, h'⟩ := h'
      cases e
      exact h' H n (P.rl.stp.up (Nat.zero_le _))
    | false => cases h
  | _ => cases h
theorem lcF_of {elt cond : E} {g : G} {it : I} {own : List (Str × Nat)} (gI : GoodI R C Γ B m ng N it) (gc : Good R C Γ B m ng N cond) (ge : Good R C Γ B m ng N elt) {EX : WX} {sc : Scope} {fb : Str → Bool} {X : Cx} (k : Ctx R C Γ B m ng EX N sc fb X) {a : Expr}
    (h : chkX Γ m ng N sc fb false (.lc elt g it cond own) a = true) : ∃ el tgx iter ifs scope pos, a = .ListComp el [⟨tgx, iter, ifs, 0⟩] scope pos ∧ LcF R C Γ B m ng N EX sc X elt g it cond own el tgx iter ifs scope := by
  simp only [chkX, Bool.not_false, Bool.true_or, Bool.true_and] at h
  split at h
  · rename_i el tgx iter ifs z scope pos
    obtain ⟨hz, h⟩ := and2 h
    obtain ⟨hb, h⟩ := and2 h
    obtain ⟨hs, h⟩ := and2 h
    obtain ⟨hn, h⟩ := and2 h
    obtain ⟨hi, h⟩ := and2 h
    obtain ⟨hg, h⟩ := and2 h
    obtain ⟨ht, he⟩ := and2 h
    have hz := of_decide_eq_true hz
    subst hz
    obtain ⟨b1, hb⟩ := and2 hb
    obtain ⟨b2, hb⟩ := and2 hb
    obtain ⟨b3, hb⟩ := and2 hb
    obtain ⟨b4, b5⟩ := and2 hb
    refine ⟨el, tgx, iter, ifs, scope, pos, rfl, gI k _ _ hi, blkOk_of (of_decide_eq_true b1) b2 b3 b4 b5, fun i hi => of_decide_eq_true (List.all_eq_true.mp hs i hi), fun s H A cl fp => s_tg k.blk g hg, fun s H A cl fp => ?_, fun s H A cl fp => (ge k.blk).1 _ he, fold_of hn⟩
    split at ht
    · exact yes_pts ht
    · exact pts_one ((gc k.blk).2 _ ht)
    · cases ht
  · cases h
theorem p_strE {EX : WX} {X : Cx} {a : Expr} {p : E} (hp : isStrE p = true) (h : PE X a (tE R C Γ B EX p)) : PE X a (tP R C Γ B EX p) := by
  cases p with
  | str y => exact p_str h
  | _ => cases hp
structure Lc2F (R : RP) (C : XCl) (Γ : Gm) (B m ng : Nat) (N : List Str) (EX : WX) (sc : Scope) (X : Cx) (elt : E) (g : G) (it : I) (cond : E) (g1 : G) (it1 : I) (cond1 : E) (own : List (Str × Nat)) (ow1 : List Nat) (el tgx iter : Expr) (ifs : List Expr) (tgx1 iter1 : Expr) (ifs1 : List Expr) (scope : Scope) : Prop where
  it_ : PI X tgx iter (tI R C Γ B EX it)
  ok : BlkOk N sc scope own
  sl : ∀ i ∈ g.sl, i ∈ own.map (·.2)
  sl1 : ∀ i ∈ g1.sl, i ∈ ow1
  ov : ∀ i ∈ ow1, i ∈ own.map (·.2)
  g_ : ∀ (s : Shared) (H : Hp) (A : Addr) (cl : List (Str × Addr)) (fp : List Addr), PG (X.blk s H scope (compEnvC scope cl A X.env) fp) tgx (tG R g)
  t_ : ∀ (s : Shared) (H : Hp) (A : Addr) (cl : List (Str × Addr)) (fp : List Addr), PTs (X.blk s H scope (compEnvC scope cl A X.env) fp) ifs (tT R C Γ B NoE cond)
  i1_ : ∀ (s : Shared) (H : Hp) (A : Addr) (cl : List (Str × Addr)) (fp : List Addr), PI (X.blk s H scope (compEnvC scope cl A X.env) fp) tgx1 iter1 (tI R C Γ B NoE it1)
  g1_ : ∀ (s : Shared) (H : Hp) (A : Addr) (cl : List (Str × Addr)) (fp : List Addr), PG (X.blk s H scope (compEnvC scope cl A X.env) fp) tgx1 (tG R g1)
  t1_ : ∀ (s : Shared) (H : Hp) (A : Addr) (cl : List (Str × Addr)) (fp : List Addr), PTs (X.blk s H scope (compEnvC scope cl A X.env) fp) ifs1 (tT R C Γ B NoE cond1)
  e_ : ∀ (s : Shared) (H : Hp) (A : Addr) (cl : List (Str × Addr)) (fp : List Addr), PE (X.blk s H scope (compEnvC scope cl A X.env) fp) el (tE R C Γ B NoE elt)
  f_ : ∀ x, foldedSetIterable iter X.env x = pure x
  f1_ : ∀ env x, foldedSetIterable iter1 env x = pure x
theorem lc2F_of {elt cond cond1 : E} {g g1 : G} {it it1 : I} {own : List (Str × Nat)} {ow1 : List Nat} (gI : GoodI R C Γ B m ng N it) (gc : Good R C Γ B m ng N cond) (gI1 : GoodI R C Γ B m ng N it1) (gc1 : Good R C Γ B m ng N cond1) (ge : Good R C Γ B m ng N elt) {EX : WX} {sc : Scope} {fb : Str → Bool} {X : Cx} (k : Ctx R C Γ B m ng EX N sc fb X) {a : Expr}
    (h : chkX Γ m ng N sc fb false (.lc2 elt g it cond g1 it1 cond1 own ow1) a = true) : ∃ el tgx iter ifs tgx1 iter1 ifs1 scope pos, a = .ListComp el [⟨tgx, iter, ifs, 0⟩, ⟨tgx1, iter1, ifs1, 0⟩] scope pos ∧ Lc2F R C Γ B m ng N EX sc X elt g it cond g1 it1 cond1 own ow1 el tgx iter ifs tgx1 iter1 ifs1 scope := by
  simp only [chkX, Bool.not_false, Bool.true_or, Bool.true_and] at h
  split at h
  · rename_i el tgx iter ifs z tgx1 iter1 ifs1 z1 scope pos
    obtain ⟨hz, h⟩ := and2 h
    obtain ⟨hz1, h⟩ := and2 h
    obtain ⟨hb, h⟩ := and2 h
    obtain ⟨hs, h⟩ := and2 h
    obtain ⟨hs1, h⟩ := and2 h
    obtain ⟨hov, h⟩ := and2 h
    obtain ⟨hn, h⟩ := and2 h
    obtain ⟨hn1, h⟩ := and2 h
    obtain ⟨hi, h⟩ := and2 h
    obtain ⟨hg, h⟩ := and2 h
    obtain ⟨hi1, h⟩ := and2 h
    obtain ⟨hg1, h⟩ := and2 h
    obtain ⟨ht, h⟩ := and2 h
    obtain ⟨ht1, he⟩ := and2 h
    have hz := of_decide_eq_true hz
    have hz1 := of_decide_eq_true hz1
    subst hz hz1
    obtain ⟨b1, hb⟩ := and2 hb
    obtain ⟨b2, hb⟩ := and2 hb
    obtain ⟨b3, hb⟩ := and2 hb
    obtain ⟨b4, b5⟩ := and2 hb
    refine ⟨el, tgx, iter, ifs, tgx1, iter1, ifs1, scope, pos, rfl, gI k _ _ hi, blkOk_of (of_decide_eq_true b1) b2 b3 b4 b5, fun i hi => of_decide_eq_true (List.all_eq_true.mp hs i hi), fun i hi => of_decide_eq_true (List.all_eq_true.mp hs1 i hi), fun i hi => of_decide_eq_true (List.all_eq_true.mp hov i hi),
      fun s H A cl fp => s_tg k.blk g hg, fun s H A cl fp => ?_, fun s H A cl fp => gI1 k.blk _ _ hi1, fun s H A cl fp => s_tg k.blk g1 hg1, fun s H A cl fp => ?_, fun s H A cl fp => (ge k.blk).1 _ he, fold_of hn, fun env => fold_of hn1⟩
    · split at ht
      · exact yes_pts ht
      · exact pts_one ((gc k.blk).2 _ ht)
      · cases ht
    · split at ht1
      · exact yes_pts ht1
      · exact pts_one ((gc1 k.blk).2 _ ht1)
      · cases ht1
  · cases h
mutual
theorem sX : ∀ (e : E), Good R C Γ B m ng N e
  | .int i => leaf (fun k a h => by
      simp only [chkX, Bool.not_false, Bool.true_or, Bool.true_and] at h
      split at h
      · cases of_decide_eq_true h
        exact s_const (v := .int i) (d := .int i) (fun _ _ => .int i) (fun _ _ _ q => by simpa only [wE] using q) pe_int
      · cases h) (fun _ _ _ => by simp only [chkX, Bool.not_true, Bool.not_false, Bool.false_or, Bool.true_or, Bool.true_and]) (fun _ _ _ => by simp only [wT])
  | .bl i => leaf (fun k a h => by
      simp only [chkX, Bool.not_false, Bool.true_or, Bool.true_and] at h
      split at h
      · cases eq_of_beq h
        exact s_const (v := .bl i) (d := .bl i) (fun _ _ => .bl i) (fun _ _ _ q => by simpa only [wE] using q) pe_bl
      · cases h) (fun _ _ _ => by simp only [chkX, Bool.not_true, Bool.not_false, Bool.false_or, Bool.true_or, Bool.true_and]) (fun _ _ _ => by simp only [wT])
  | .non => leaf (fun k a h => by
      simp only [chkX, Bool.not_false, Bool.true_or, Bool.true_and] at h
      split at h
      · exact s_const (v := .non) (d := .non) (fun _ _ => .non) (fun _ _ _ q => by simpa only [wE] using q) pe_non
      · cases h) (fun _ _ _ => by simp only [chkX, Bool.not_true, Bool.not_false, Bool.false_or, Bool.true_or, Bool.true_and]) (fun _ _ _ => by simp only [wT])
  | .str y => leaf (fun k a h => by
      simp only [chkX, Bool.not_false, Bool.true_or, Bool.true_and] at h
      split at h
      · obtain ⟨h1, h2⟩ := and2 h
        obtain ⟨h2, h3⟩ := and2 h2
        cases of_decide_eq_true h1
        exact s_const (v := .str y) (d := .str y) (fun _ _ => .str y ⟨of_decide_eq_true h2, h3⟩) (fun _ _ _ q => by simpa only [wE] using q) pe_str
      · cases h) (fun _ _ _ => by simp only [chkX, Bool.not_true, Bool.not_false, Bool.false_or, Bool.true_or, Bool.true_and]) (fun _ _ _ => by simp only [wT])
  | .var i => leaf (fun k a h => by
      simp only [chkX, Bool.not_false, Bool.true_or, Bool.true_and] at h
      split at h
      · obtain ⟨h1, h⟩ := and2 h
        obtain ⟨h2, h⟩ := and2 h
        obtain ⟨h3, h4⟩ := and2 h
        exact s_var (pe_var (k.eN ▸ of_decide_eq_true h1) (vis_of k.esc h2) (notB h3) (notB h4))
      · cases h) (fun _ _ _ => by simp only [chkX, Bool.not_true, Bool.not_false, Bool.false_or, Bool.true_or, Bool.true_and]) (fun _ _ _ => by simp only [wT])
  | .glb g => leaf (fun k a h => by
      simp only [chkX, Bool.not_false, Bool.true_or, Bool.true_and] at h
      split at h
      · obtain ⟨h1, h⟩ := and2 h
        obtain ⟨h2, h3⟩ := and2 h
        obtain ⟨u, v, e1, e2, e3⟩ := k.glb g (of_decide_eq_true h1)
        obtain ⟨g1, g2⟩ := gl_of k.esc h3
        have h2 := of_decide_eq_true h2
        subst h2
        exact s_const (v := v) (d := Γ.gD g) e3 (fun _ _ _ q => by simpa only [wE] using q) (pe_glob g1 e1 e2 g2)
      · cases h) (fun _ _ _ => by simp only [chkX, Bool.not_true, Bool.not_false, Bool.false_or, Bool.true_or, Bool.true_and]) (fun _ _ _ => by simp only [wT])
  | .bin op p q => leaf (fun k a h => by
      simp only [chkX, Bool.not_false, Bool.true_or, Bool.true_and] at h
      split at h
      · obtain ⟨h1, h⟩ := and2 h
        obtain ⟨h2, h3⟩ := and2 h
        cases of_decide_eq_true h1
        exact s_bin k.eK ((sX p k).1 _ h2) ((sX q k).1 _ h3)
      · cases h) (fun _ _ _ => by simp only [chkX, Bool.not_true, Bool.not_false, Bool.false_or, Bool.true_or, Bool.true_and]) (fun _ _ _ => by simp only [wT])
  | .neg p => leaf (fun k a h => by
      simp only [chkX, Bool.not_false, Bool.true_or, Bool.true_and] at h
      split at h
      · exact s_neg ((sX p k).1 _ h)
      · cases h) (fun _ _ _ => by simp only [chkX, Bool.not_true, Bool.not_false, Bool.false_or, Bool.true_or, Bool.true_and]) (fun _ _ _ => by simp only [wT])
  | .not p => fun k => ⟨fun a h => by
      simp only [chkX] at h
      split at h
      · exact s_not k.eK ((sX p k).1 _ h)
      · (cases h), fun a h => by
      simp only [chkX] at h
      split at h
      · exact t_not ((sX p k).2 _ h)
      · cases h⟩
  | .and p q => fun k => ⟨fun a h => by
      simp only [chkX] at h
      split at h
      · obtain ⟨h1, h2⟩ := and2 h
        split at h2
        · exact s_and k.eK ((sX p k).1 _ h1) (pe_one ((sX q k).1 _ h2))
        · exact s_and k.eK ((sX p k).1 _ h1) ((sX q k).1 _ h2)
      · (cases h), fun a h => by
      simp only [chkX] at h
      split at h
      · obtain ⟨h1, h2⟩ := and2 h
        split at h2
        · exact t_and ((sX p k).2 _ h1) (t_and1 ((sX q k).2 _ h2))
        · exact t_and ((sX p k).2 _ h1) ((sX q k).2 _ h2)
      · cases h⟩
  | .or p q => fun k => ⟨fun a h => by
      simp only [chkX] at h
      split at h
      · obtain ⟨h1, h2⟩ := and2 h
        split at h2
        · exact s_or k.eK ((sX p k).1 _ h1) (pe_one ((sX q k).1 _ h2))
        · exact s_or k.eK ((sX p k).1 _ h1) ((sX q k).1 _ h2)
      · (cases h), fun a h => by
      simp only [chkX] at h
      split at h
      · obtain ⟨h1, h2⟩ := and2 h
        split at h2
        · exact t_or ((sX p k).2 _ h1) (t_or1 ((sX q k).2 _ h2))
        · exact t_or ((sX p k).2 _ h1) ((sX q k).2 _ h2)
      · cases h⟩
  | .cmp op p q => fun k => ⟨fun a h => by
      simp only [chkX] at h
      split at h
      · obtain ⟨h1, h⟩ := and2 h
        obtain ⟨h0, h⟩ := and2 h
        obtain ⟨h2, h3⟩ := and2 h
        cases of_decide_eq_true h1
        exact s_cmp k.eK k.units k.hat ((sX p k).1 _ h2) ((sX q k).1 _ h3) (notB h0)
      · (cases h), fun a h => by
      simp only [chkX] at h
      split at h
      · obtain ⟨h1, h⟩ := and2 h
        obtain ⟨h0, h⟩ := and2 h
        obtain ⟨h2, h3⟩ := and2 h
        cases of_decide_eq_true h1
        exact s_tcmp k.eK k.units k.hat ((sX p k).1 _ h2) ((sX q k).1 _ h3) (notB h0)
      · cases h⟩
  | .cmp2 o1 o2 p q r => fun k => ⟨fun a h => by
      simp only [chkX] at h
      split at h
      · obtain ⟨h1, h⟩ := and2 h
        obtain ⟨h1', h⟩ := and2 h
        obtain ⟨h0, h⟩ := and2 h
        obtain ⟨h2, h⟩ := and2 h
        obtain ⟨h3, h4⟩ := and2 h
        cases of_decide_eq_true h1
        cases of_decide_eq_true h1'
        exact s_cmp2 k ((sX p k).1 _ h2) ((sX q k).1 _ h3) ((sX r k).1 _ h4) (notB h0)
      · (cases h), fun a h => by
      simp only [chkX] at h
      split at h
      · obtain ⟨h1, h⟩ := and2 h
        obtain ⟨h1', h⟩ := and2 h
        obtain ⟨h0, h⟩ := and2 h
        obtain ⟨h2, h⟩ := and2 h
        obtain ⟨h3, h4⟩ := and2 h
        cases of_decide_eq_true h1
        cases of_decide_eq_true h1'
        exact s_tcmp2 k ((sX p k).1 _ h2) ((sX q k).1 _ h3) ((sX r k).1 _ h4) (notB h0)
      · cases h⟩
  | .ite c p q => fun k => ⟨fun a h => by
      simp only [chkX] at h
      split at h
      · obtain ⟨_, h⟩ := and2 h
        obtain ⟨h1, h⟩ := and2 h
        obtain ⟨h2, h3⟩ := and2 h
        exact s_ite ((sX c k).2 _ h1) ((sX p k).1 _ h2) ((sX q k).1 _ h3)
      · (cases h), fun a h => by
      simp only [chkX] at h
      split at h
      · exact absurd (and2 h).1 Bool.false_ne_true
      · cases h⟩
  | .tup ps => leaf (fun k a h => by
      simp only [chkX, Bool.not_false, Bool.true_or, Bool.true_and] at h
      split at h
      · exact s_tup ((sEs ps k).2.2.1 _ h)
      · cases h) (fun _ _ _ => by simp only [chkX, Bool.not_true, Bool.not_false, Bool.false_or, Bool.true_or, Bool.true_and]) (fun _ _ _ => by simp only [wT])
  | .lst ps => leaf (fun k a h => by
      simp only [chkX, Bool.not_false, Bool.true_or, Bool.true_and] at h
      split at h
      · exact s_lst ((sEs ps k).2.2.1 _ h)
      · cases h) (fun _ _ _ => by simp only [chkX, Bool.not_true, Bool.not_false, Bool.false_or, Bool.true_or, Bool.true_and]) (fun _ _ _ => by simp only [wT])
  | .dct0 => leaf (fun k a h => by
      simp only [chkX, Bool.not_false, Bool.true_or, Bool.true_and] at h
      split at h
      · exact s_dct0
      · cases h) (fun _ _ _ => by simp only [chkX, Bool.not_true, Bool.not_false, Bool.false_or, Bool.true_or, Bool.true_and]) (fun _ _ _ => by simp only [wT])
  | .dct1 p q => leaf (fun k a h => by
      simp only [chkX, Bool.not_false, Bool.true_or, Bool.true_and] at h
      split at h
      · obtain ⟨h1, h2⟩ := and2 h
        exact s_dct1 ((sX p k).1 _ h1) ((sX q k).1 _ h2)
      · cases h) (fun _ _ _ => by simp only [chkX, Bool.not_true, Bool.not_false, Bool.false_or, Bool.true_or, Bool.true_and]) (fun _ _ _ => by simp only [wT])
  | .ix p q => leaf (fun k a h => by
      simp only [chkX, Bool.not_false, Bool.true_or, Bool.true_and] at h
      split at h
      · obtain ⟨h0, h⟩ := and2 h
        obtain ⟨h1, h2⟩ := and2 h
        exact s_ix k.eK ((sX p k).1 _ h1) ((sX q k).1 _ h2) (plain_ix h0)
      · cases h) (fun _ _ _ => by simp only [chkX, Bool.not_true, Bool.not_false, Bool.false_or, Bool.true_or, Bool.true_and]) (fun _ _ _ => by simp only [wT])
  | .slL p q => leaf (fun k a h => by
      simp only [chkX, Bool.not_false, Bool.true_or, Bool.true_and] at h
      split at h
      · obtain ⟨h1, h2⟩ := and2 h
        exact s_slL k.eK ((sX p k).1 _ h1) ((sX q k).1 _ h2)
      · cases h) (fun _ _ _ => by simp only [chkX, Bool.not_true, Bool.not_false, Bool.false_or, Bool.true_or, Bool.true_and]) (fun _ _ _ => by simp only [wT])
  | .slU p q => leaf (fun k a h => by
      simp only [chkX, Bool.not_false, Bool.true_or, Bool.true_and] at h
      split at h
      · obtain ⟨h1, h2⟩ := and2 h
        exact s_slU k.eK ((sX p k).1 _ h1) ((sX q k).1 _ h2)
      · cases h) (fun _ _ _ => by simp only [chkX, Bool.not_true, Bool.not_false, Bool.false_or, Bool.true_or, Bool.true_and]) (fun _ _ _ => by simp only [wT])
  | .slLU p q r => leaf (fun k a h => by
      simp only [chkX, Bool.not_false, Bool.true_or, Bool.true_and] at h
      split at h
      · obtain ⟨h1, h⟩ := and2 h
        obtain ⟨h2, h3⟩ := and2 h
        exact s_slLU k.eK ((sX p k).1 _ h1) ((sX q k).1 _ h2) ((sX r k).1 _ h3)
      · cases h) (fun _ _ _ => by simp only [chkX, Bool.not_true, Bool.not_false, Bool.false_or, Bool.true_or, Bool.true_and]) (fun _ _ _ => by simp only [wT])
  | .slR p => leaf (fun k a h => by
      simp only [chkX, Bool.not_false, Bool.true_or, Bool.true_and] at h
      split at h
      · exact s_rev ((sX p k).1 _ h)
      · cases h) (fun _ _ _ => by simp only [chkX, Bool.not_true, Bool.not_false, Bool.false_or, Bool.true_or, Bool.true_and]) (fun _ _ _ => by simp only [wT])
  | .isi p T => leaf (fun k a h => by
      simp only [chkX, Bool.not_false, Bool.true_or, Bool.true_and] at h
      split at h
      · obtain ⟨h1, h⟩ := and2 h
        obtain ⟨h2, h⟩ := and2 h
        obtain ⟨h3, h⟩ := and2 h
        obtain ⟨h4, h⟩ := and2 h
        obtain ⟨h5, h⟩ := and2 h
        obtain ⟨h6, h7⟩ := and2 h
        cases of_decide_eq_true h1
        cases of_decide_eq_true h2
        exact s_isi k (List.contains_iff_mem.mp h3) (gl_of k.esc h4).1 (gl_of k.esc h5).1 ((sX p k).1 _ h7) h6
      · cases h) (fun _ _ _ => by simp only [chkX, Bool.not_true, Bool.not_false, Bool.false_or, Bool.true_or, Bool.true_and]) (fun _ _ _ => by simp only [wT])
  | .call f ps => leaf (fun k a h => by
      simp only [chkX, Bool.not_false, Bool.true_or, Bool.true_and] at h
      split at h
      · obtain ⟨h1, h⟩ := and2 h
        obtain ⟨hfk, h⟩ := and2 h
        obtain ⟨h2, h⟩ := and2 h
        obtain ⟨h3, h⟩ := and2 h
        obtain ⟨h4, h5⟩ := and2 h
        obtain ⟨g1, g2⟩ := gl_of k.esc h3
        exact s_call k (of_decide_eq_true h1) (of_decide_eq_true hfk) (of_decide_eq_true h2) g1 ((sEs ps k).1 _ h5 h4).2 g2 h4
      · cases h) (fun _ _ _ => by simp only [chkX, Bool.not_true, Bool.not_false, Bool.false_or, Bool.true_or, Bool.true_and]) (fun _ _ _ => by simp only [wT])
  | .callk j ps qs => leaf (fun k a h => by
      simp only [chkX, Bool.not_false, Bool.true_or, Bool.true_and] at h
      split at h
      · obtain ⟨h1, h⟩ := and2 h
        obtain ⟨hfk, h⟩ := and2 h
        obtain ⟨h2, h⟩ := and2 h
        obtain ⟨h3, h⟩ := and2 h
        obtain ⟨h4, h⟩ := and2 h
        obtain ⟨h5, h⟩ := and2 h
        obtain ⟨h6, h⟩ := and2 h
        obtain ⟨h7, h⟩ := and2 h
        obtain ⟨h8, h9⟩ := and2 h
        obtain ⟨g1, g2⟩ := gl_of k.esc h4
        refine s_callk k (of_decide_eq_true h1) (of_decide_eq_true hfk) (of_decide_eq_true h2) (of_decide_eq_true h3) g1 g2 (fun _ => ((sEs ps k).1 _ h6 h5).2) (fun e => ?_) h5 ((sEs qs k).2.1 _ h7) h8 (of_decide_eq_true h9)
        subst e
        cases ps with
        | nil => rfl
        | cons => simp [chkEs] at h6
        | star => simp [chkEs] at h6
      · cases h) (fun _ _ _ => by simp only [chkX, Bool.not_true, Bool.not_false, Bool.false_or, Bool.true_or, Bool.true_and]) (fun _ _ _ => by simp only [wT])
  | .blt id ps => leaf (fun k a h => by
      simp only [chkX, Bool.not_false, Bool.true_or, Bool.true_and] at h
      split at h
      · obtain ⟨h1, h⟩ := and2 h
        obtain ⟨h2, h⟩ := and2 h
        obtain ⟨h3, h⟩ := and2 h
        obtain ⟨h4, h5⟩ := and2 h
        cases of_decide_eq_true h2
        have hm := List.contains_iff_mem.mp h1
        have hb : id ∈ bltNms ∧ ["range", "zip", "enumerate", "bool", "dict", "set", "type"].contains id = false := by
          simp only [bltOkIds, List.mem_cons, List.not_mem_nil, or_false] at hm
          rcases hm with rfl | rfl | rfl | rfl | rfl | rfl | rfl | rfl | rfl | rfl | rfl <;> exact ⟨by decide, by decide⟩
        exact s_blt k hb.1 hb.2 (gl_of k.esc h3).1 ((sEs ps k).1 _ h5 h4).2 h4
      · cases h) (fun _ _ _ => by simp only [chkX, Bool.not_true, Bool.not_false, Bool.false_or, Bool.true_or, Bool.true_and]) (fun _ _ _ => by simp only [wT])
  | .mth id p ps => leaf (fun k a h => by
      simp only [chkX, Bool.not_false, Bool.true_or, Bool.true_and] at h
      split at h
      · obtain ⟨h1, h⟩ := and2 h
        obtain ⟨h2, h⟩ := and2 h
        obtain ⟨h3, h⟩ := and2 h
        obtain ⟨h4, h⟩ := and2 h
        obtain ⟨h5, h⟩ := and2 h
        obtain ⟨h6, h⟩ := and2 h
        obtain ⟨h7, h8⟩ := and2 h
        cases of_decide_eq_true h2
        exact s_mth k (List.contains_iff_mem.mp h1) ((sX p k).1 _ h7) ((sEs ps k).1 _ h8 h4).2 h3 h4 (of_decide_eq_true h5) h6
      · cases h) (fun _ _ _ => by simp only [chkX, Bool.not_true, Bool.not_false, Bool.false_or, Bool.true_or, Bool.true_and]) (fun _ _ _ => by simp only [wT])
  | .mut id i ps => leaf (fun k a h => by
      simp only [chkX, Bool.not_false, Bool.true_or, Bool.true_and] at h
      split at h
      · rename_i x p0 y ap es cp
        obtain ⟨h1, h⟩ := and2 h
        obtain ⟨h2, h⟩ := and2 h
        obtain ⟨h4, h⟩ := and2 h
        obtain ⟨h5, h⟩ := and2 h
        obtain ⟨h6, h⟩ := and2 h
        obtain ⟨h7, h8⟩ := and2 h
        obtain ⟨v1, h7⟩ := and2 h7
        obtain ⟨v2, h7⟩ := and2 h7
        obtain ⟨v3, v4⟩ := and2 h7
        cases of_decide_eq_true h2
        have ho : PE _ (.Name x p0) (tVar i) := pe_var (k.eN ▸ of_decide_eq_true v1) (vis_of k.esc v2) (notB v3) (notB v4)
        cases es with
        | nil =>
          cases ps with
          | nil => exact s_mut0 (List.contains_iff_mem.mp h1) ho h6
          | cons => simp [chkEs] at h8
          | star => simp [chkEs] at h8
        | cons e es => exact s_mut (List.contains_iff_mem.mp h1) ho ((sEs ps k).1 _ h8 h4).1 h4 (of_decide_eq_true h5) h6
      · cases h) (fun _ _ _ => by simp only [chkX, Bool.not_true, Bool.not_false, Bool.false_or, Bool.true_or, Bool.true_and]) (fun _ _ _ => by simp only [wT])
  | .fld p c j => leaf (fun k a h => by
      simp only [chkX, Bool.not_false, Bool.true_or, Bool.true_and] at h
      split at h
      · obtain ⟨h1, h⟩ := and2 h
        obtain ⟨h2, h⟩ := and2 h
        obtain ⟨h3, h4⟩ := and2 h
        exact s_fld k (of_decide_eq_true h1) (of_decide_eq_true h2) ((sX p k).1 _ h4) h3
      · cases h) (fun _ _ _ => by simp only [chkX, Bool.not_true, Bool.not_false, Bool.false_or, Bool.true_or, Bool.true_and]) (fun _ _ _ => by simp only [wT])
  | .tupR p => leaf (fun k a h => by
      simp only [chkX, Bool.not_false, Bool.true_or, Bool.true_and] at h
      split at h
      · obtain ⟨h1, h⟩ := and2 h
        obtain ⟨h2, h⟩ := and2 h
        obtain ⟨h3, h⟩ := and2 h
        obtain ⟨h4, h⟩ := and2 h
        obtain ⟨h5, h6⟩ := and2 h
        cases of_decide_eq_true h1
        cases of_decide_eq_true h2
        exact s_tupR k (gl_of k.esc h3).1 (gl_of k.esc h4).1 ((sX p k).1 _ h6) h5
      · cases h) (fun _ _ _ => by simp only [chkX, Bool.not_true, Bool.not_false, Bool.false_or, Bool.true_or, Bool.true_and]) (fun _ _ _ => by simp only [wT])
  | .lstR p => leaf (fun k a h => by
      simp only [chkX, Bool.not_false, Bool.true_or, Bool.true_and] at h
      split at h
      · obtain ⟨h1, h⟩ := and2 h
        obtain ⟨h2, h⟩ := and2 h
        obtain ⟨h3, h⟩ := and2 h
        obtain ⟨h4, h⟩ := and2 h
        obtain ⟨h5, h6⟩ := and2 h
        cases of_decide_eq_true h1
        cases of_decide_eq_true h2
        exact s_lstR k (gl_of k.esc h3).1 (gl_of k.esc h4).1 ((sX p k).1 _ h6) h5
      · cases h) (fun _ _ _ => by simp only [chkX, Bool.not_true, Bool.not_false, Bool.false_or, Bool.true_or, Bool.true_and]) (fun _ _ _ => by simp only [wT])
  | .lenm c f p => leaf (fun k a h => by
      simp only [chkX, Bool.not_false, Bool.true_or, Bool.true_and] at h
      split at h
      · obtain ⟨h1, h⟩ := and2 h
        obtain ⟨h2, h⟩ := and2 h
        obtain ⟨h3, h⟩ := and2 h
        obtain ⟨h4, h⟩ := and2 h
        obtain ⟨h5, h⟩ := and2 h
        obtain ⟨h6, h7⟩ := and2 h
        cases of_decide_eq_true h4
        exact s_lenO k (of_decide_eq_true h1) (of_decide_eq_true h2) (of_decide_eq_true h3) (gl_of k.esc h5).1 ((sX p k).1 _ h7) h6
      · cases h) (fun _ _ _ => by simp only [chkX, Bool.not_true, Bool.not_false, Bool.false_or, Bool.true_or, Bool.true_and]) (fun _ _ _ => by simp only [wT])
  | .appe c f p q => leaf (fun k a h => by
      simp only [chkX, Bool.not_false, Bool.true_or, Bool.true_and] at h
      split at h
      · obtain ⟨h1, h⟩ := and2 h
        obtain ⟨h2, h⟩ := and2 h
        obtain ⟨h3, h⟩ := and2 h
        obtain ⟨h4, h⟩ := and2 h
        obtain ⟨h5, h6⟩ := and2 h
        exact s_eqT k (of_decide_eq_true h1) (of_decide_eq_true h2) (of_decide_eq_true h3) ((sX p k).1 _ h5) ((sX q k).1 _ h6) (notB h4)
      · cases h) (fun _ _ _ => by simp only [chkX, Bool.not_true, Bool.not_false, Bool.false_or, Bool.true_or, Bool.true_and]) (fun _ _ _ => by simp only [wT])
  | .newk c j ps => leaf (fun k a h => by
      simp only [chkX, Bool.not_false, Bool.true_or, Bool.true_and] at h
      split at h
      · obtain ⟨h1, h⟩ := and2 h
        obtain ⟨h2, h⟩ := and2 h
        obtain ⟨h3, h⟩ := and2 h
        obtain ⟨h4, h⟩ := and2 h
        obtain ⟨h5, h⟩ := and2 h
        obtain ⟨h6, h⟩ := and2 h
        obtain ⟨h7, h⟩ := and2 h
        obtain ⟨h8, h9⟩ := and2 h
        obtain ⟨g1, g2⟩ := gl_of k.esc h6
        exact s_newK k (of_decide_eq_true h1) (of_decide_eq_true h2) (of_decide_eq_true h3) (of_decide_eq_true h4) (of_decide_eq_true h5) g1 g2 ((sEs ps k).2.1 _ h7) h8 (of_decide_eq_true h9)
      · cases h) (fun _ _ _ => by simp only [chkX, Bool.not_true, Bool.not_false, Bool.false_or, Bool.true_or, Bool.true_and]) (fun _ _ _ => by simp only [wT])
  | .appm c f p ps => leaf (fun k a h => by
      simp only [chkX, Bool.not_false, Bool.true_or, Bool.true_and] at h
      split at h
      · obtain ⟨h1, h⟩ := and2 h
        obtain ⟨h2, h⟩ := and2 h
        obtain ⟨h3, h⟩ := and2 h
        obtain ⟨h4, h⟩ := and2 h
        obtain ⟨h5, h⟩ := and2 h
        obtain ⟨h6, h⟩ := and2 h
        obtain ⟨h7, h⟩ := and2 h
        obtain ⟨h8, h⟩ := and2 h
        obtain ⟨h9, h⟩ := and2 h
        obtain ⟨h10, h11⟩ := and2 h
        refine s_mthO k (of_decide_eq_true h1) (of_decide_eq_true h2) (of_decide_eq_true h3) (of_decide_eq_true h4) (of_decide_eq_true h5) ((sX p k).1 _ h10) (fun _ => ((sEs ps k).1 _ h11 h7).2) (fun e => ?_) h6 h7 (of_decide_eq_true h8) h9
        subst e
        cases ps with
        | nil => rfl
        | cons => simp [chkEs] at h11
        | star => simp [chkEs] at h11
      · cases h) (fun _ _ _ => by simp only [chkX, Bool.not_true, Bool.not_false, Bool.false_or, Bool.true_or, Bool.true_and]) (fun _ _ _ => by simp only [wT])
  | .appk c j p ps => leaf (fun k a h => by
      simp only [chkX, Bool.not_false, Bool.true_or, Bool.true_and] at h
      split at h
      · obtain ⟨h1, h⟩ := and2 h
        obtain ⟨h2, h⟩ := and2 h
        obtain ⟨h3, h⟩ := and2 h
        obtain ⟨h4, h⟩ := and2 h
        obtain ⟨h5, h⟩ := and2 h
        obtain ⟨h6, h⟩ := and2 h
        obtain ⟨h7, h⟩ := and2 h
        obtain ⟨h8, h⟩ := and2 h
        obtain ⟨h9, h⟩ := and2 h
        obtain ⟨h10, h⟩ := and2 h
        obtain ⟨h11, h⟩ := and2 h
        obtain ⟨h12, h⟩ := and2 h
        obtain ⟨h13, h14⟩ := and2 h
        exact s_mthK k (of_decide_eq_true h1) (of_decide_eq_true h2) (of_decide_eq_true h3) (of_decide_eq_true h4) (of_decide_eq_true h5) (of_decide_eq_true h6) (of_decide_eq_true h7) ((sX p k).1 _ h13) ((sEs ps k).2.1 _ h14) h11 (of_decide_eq_true h12) (of_decide_eq_true h9) h8 h10
      · cases h) (fun _ _ _ => by simp only [chkX, Bool.not_true, Bool.not_false, Bool.false_or, Bool.true_or, Bool.true_and]) (fun _ _ _ => by simp only [wT])
  | .appn c f ps => leaf (fun k a h => by
      simp only [chkX, Bool.not_false, Bool.true_or, Bool.true_and] at h
      split at h
      · obtain ⟨h1, h⟩ := and2 h
        obtain ⟨h2, h⟩ := and2 h
        obtain ⟨h3, h⟩ := and2 h
        obtain ⟨h4, h⟩ := and2 h
        obtain ⟨h5, h6⟩ := and2 h
        obtain ⟨g1, g2⟩ := gl_of k.esc h4
        exact s_newO k (of_decide_eq_true h1) (of_decide_eq_true h2) (of_decide_eq_true h3) g1 ((sEs ps k).1 _ h6 h5).2 g2 h5
      · cases h) (fun _ _ _ => by simp only [chkX, Bool.not_true, Bool.not_false, Bool.false_or, Bool.true_or, Bool.true_and]) (fun _ _ _ => by simp only [wT])
  | .apps c f p q => leaf (fun k a h => by
      simp only [chkX, Bool.not_false, Bool.true_or, Bool.true_and] at h
      split at h
      · obtain ⟨h1, h⟩ := and2 h
        obtain ⟨h2, h⟩ := and2 h
        obtain ⟨h3, h⟩ := and2 h
        obtain ⟨h4, h⟩ := and2 h
        obtain ⟨h5, h6⟩ := and2 h
        exact s_subO k (of_decide_eq_true h1) (of_decide_eq_true h2) (of_decide_eq_true h3) ((sX p k).1 _ h5) ((sX q k).1 _ h6) (sub_ok h4)
      · cases h) (fun _ _ _ => by simp only [chkX, Bool.not_true, Bool.not_false, Bool.false_or, Bool.true_or, Bool.true_and]) (fun _ _ _ => by simp only [wT])
  | .appc c f p q => leaf (fun k a h => by
      simp only [chkX, Bool.not_false, Bool.true_or, Bool.true_and] at h
      split at h
      · obtain ⟨h1, h⟩ := and2 h
        obtain ⟨h2, h⟩ := and2 h
        obtain ⟨h3, h⟩ := and2 h
        obtain ⟨h4, h⟩ := and2 h
        obtain ⟨h5, h6⟩ := and2 h
        exact s_contO k (of_decide_eq_true h1) (of_decide_eq_true h2) (of_decide_eq_true h3) ((sX p k).1 _ h5) ((sX q k).1 _ h6) (by simpa using h4)
      · cases h) (fun _ _ _ => by simp only [chkX, Bool.not_true, Bool.not_false, Bool.false_or, Bool.true_or, Bool.true_and]) (fun _ _ _ => by simp only [wT])
  | .lc elt g it cond own => leaf (fun k a h => by
      obtain ⟨el, tgx, iter, ifs, scope, pos, rfl, L⟩ := lcF_of (sI it) (sX cond) (sX elt) k h
      exact imE (pe_lc k.calm (k.eN ▸ k.nd) L.it_ (by rw [k.eN, k.esc]; exact L.ok) L.g_ L.t_ L.e_ L.f_) fun σ H Q h => lc_read L.sl h)
      (fun _ _ _ => by simp only [chkX, Bool.not_true, Bool.not_false, Bool.false_or, Bool.true_or, Bool.true_and]) (fun _ _ _ => by simp only [wT])
  | .propm c f p => leaf (fun k a h => by
      simp only [chkX, Bool.not_false, Bool.true_or, Bool.true_and] at h
      split at h
      · obtain ⟨h1, h⟩ := and2 h
        obtain ⟨h2, h⟩ := and2 h
        obtain ⟨h3, h⟩ := and2 h
        obtain ⟨h4, h⟩ := and2 h
        obtain ⟨h5, h6⟩ := and2 h
        exact s_prop k (of_decide_eq_true h1) (of_decide_eq_true h2) (of_decide_eq_true h3) (of_decide_eq_true h4) ((sX p k).1 _ h6) h5
      · cases h) (fun _ _ _ => by simp only [chkX, Bool.not_true, Bool.not_false, Bool.false_or, Bool.true_or, Bool.true_and]) (fun _ _ _ => by simp only [wT])
  | .cm c f ps => leaf (fun k a h => by
      simp only [chkX, Bool.not_false, Bool.true_or, Bool.true_and] at h
      split at h
      · obtain ⟨h1, h⟩ := and2 h
        obtain ⟨h2, h⟩ := and2 h
        obtain ⟨h3, h⟩ := and2 h
        obtain ⟨h4, h⟩ := and2 h
        obtain ⟨h5, h⟩ := and2 h
        obtain ⟨h6, h⟩ := and2 h
        obtain ⟨h7, h⟩ := and2 h
        obtain ⟨h8, h⟩ := and2 h
        obtain ⟨h9, h10⟩ := and2 h
        obtain ⟨g1, g2⟩ := gl_of k.esc h6
        exact s_cm k (of_decide_eq_true h1) (of_decide_eq_true h2) (of_decide_eq_true h3) (of_decide_eq_true h4) (of_decide_eq_true h5) g1 g2 ((sEs ps k).1 _ h10 h7).2 h7 (of_decide_eq_true h8) h9
      · cases h) (fun _ _ _ => by simp only [chkX, Bool.not_true, Bool.not_false, Bool.false_or, Bool.true_or, Bool.true_and]) (fun _ _ _ => by simp only [wT])
  | .cmk c j ps => leaf (fun k a h => by
      simp only [chkX, Bool.not_false, Bool.true_or, Bool.true_and] at h
      split at h
      · obtain ⟨h1, h⟩ := and2 h
        obtain ⟨h2, h⟩ := and2 h
        obtain ⟨h3, h⟩ := and2 h
        obtain ⟨h4, h⟩ := and2 h
        obtain ⟨h5, h⟩ := and2 h
        obtain ⟨h6, h⟩ := and2 h
        obtain ⟨h7, h⟩ := and2 h
        obtain ⟨h8, h⟩ := and2 h
        obtain ⟨h9, h⟩ := and2 h
        obtain ⟨h10, h⟩ := and2 h
        obtain ⟨h11, h⟩ := and2 h
        obtain ⟨h12, h13⟩ := and2 h
        obtain ⟨g1, g2⟩ := gl_of k.esc h8
        exact s_cmk k (of_decide_eq_true h1) (of_decide_eq_true h2) (of_decide_eq_true h3) (of_decide_eq_true h4) (of_decide_eq_true h5) (of_decide_eq_true h6) (of_decide_eq_true h7) g1 g2 ((sEs ps k).2.1 _ h13) h11 (of_decide_eq_true h12) (of_decide_eq_true h9) h10
      · cases h) (fun _ _ _ => by simp only [chkX, Bool.not_true, Bool.not_false, Bool.false_or, Bool.true_or, Bool.true_and]) (fun _ _ _ => by simp only [wT])
  | .appv i c f ps => leaf (fun k a h => by
      simp only [chkX, Bool.not_false, Bool.true_or, Bool.true_and] at h
      split at h
      · obtain ⟨h1, h⟩ := and2 h
        obtain ⟨h2, h⟩ := and2 h
        obtain ⟨h3, h⟩ := and2 h
        obtain ⟨h4, h⟩ := and2 h
        obtain ⟨h5, h⟩ := and2 h
        obtain ⟨h6, h⟩ := and2 h
        obtain ⟨h7, h⟩ := and2 h
        obtain ⟨h8, h9⟩ := and2 h
        exact s_appv k (of_decide_eq_true h1) (of_decide_eq_true h2) (of_decide_eq_true h3) (of_decide_eq_true h4) (vis_of k.esc h5) ((sEs ps k).1 _ h9 h8).2 (notB h6) (notB h7) h8
      · cases h) (fun _ _ _ => by simp only [chkX, Bool.not_true, Bool.not_false, Bool.false_or, Bool.true_or, Bool.true_and]) (fun _ _ _ => by simp only [wT])
  | .appb op c f p q => leaf (fun k a h => by
      simp only [chkX, Bool.not_false, Bool.true_or, Bool.true_and] at h
      split at h
      · obtain ⟨h1, h⟩ := and2 h
        obtain ⟨h2, h⟩ := and2 h
        obtain ⟨h3, h⟩ := and2 h
        obtain ⟨h4, h⟩ := and2 h
        obtain ⟨h5, h⟩ := and2 h
        obtain ⟨h6, h7⟩ := and2 h
        cases of_decide_eq_true h1
        exact s_appb2 k (of_decide_eq_true h2) (of_decide_eq_true h3) (of_decide_eq_true h4) (of_decide_eq_true h5) ((sX p k).1 _ h6) ((sX q k).1 _ h7)
      · cases h) (fun _ _ _ => by simp only [chkX, Bool.not_true, Bool.not_false, Bool.false_or, Bool.true_or, Bool.true_and]) (fun _ _ _ => by simp only [wT])
  | .fstr ps => leaf (fun k a h => by
      simp only [chkX, Bool.not_false, Bool.true_or, Bool.true_and] at h
      split at h
      · exact s_fstr ((sEs ps k).2.2.2 _ h)
      · cases h) (fun _ _ _ => by simp only [chkX, Bool.not_true, Bool.not_false, Bool.false_or, Bool.true_or, Bool.true_and]) (fun _ _ _ => by simp only [wT])
  | .appq ne c f p q => fun k => ⟨fun a h => by
      simp only [chkX] at h
      split at h
      · obtain ⟨h1, h⟩ := and2 h
        obtain ⟨h2, h⟩ := and2 h
        obtain ⟨h3, h⟩ := and2 h
        obtain ⟨h4, h⟩ := and2 h
        obtain ⟨h5, h⟩ := and2 h
        obtain ⟨h6, h⟩ := and2 h
        obtain ⟨h7, h8⟩ := and2 h
        cases of_decide_eq_true h1
        exact s_q k (of_decide_eq_true h2) (of_decide_eq_true h3) (of_decide_eq_true h4) (of_decide_eq_true h5) ((sX p k).1 _ h7) ((sX q k).1 _ h8) (notB h6)
      · (cases h), fun a h => by
      simp only [chkX] at h
      split at h
      · obtain ⟨h1, h⟩ := and2 h
        obtain ⟨h2, h⟩ := and2 h
        obtain ⟨h3, h⟩ := and2 h
        obtain ⟨h4, h⟩ := and2 h
        obtain ⟨h5, h⟩ := and2 h
        obtain ⟨h6, h⟩ := and2 h
        obtain ⟨h7, h8⟩ := and2 h
        cases of_decide_eq_true h1
        exact t_q k (of_decide_eq_true h2) (of_decide_eq_true h3) (of_decide_eq_true h4) (of_decide_eq_true h5) ((sX p k).1 _ h7) ((sX q k).1 _ h8) (notB h6)
      · cases h⟩
  | .lc2 elt g it cond g1 it1 cond1 own ow1 => leaf (fun k a h => by
      obtain ⟨el, tgx, iter, ifs, tgx1, iter1, ifs1, scope, pos, rfl, L⟩ := lc2F_of (sI it) (sX cond) (sI it1) (sX cond1) (sX elt) k h
      exact imE (pe_lc2 k.calm (k.eN ▸ k.nd) L.it_ (by rw [k.eN, k.esc]; exact L.ok) L.ov L.g_ L.t_ L.i1_ L.g1_ L.t1_ L.e_ L.f_ L.f1_) fun σ H Q h => lc2_read L.sl L.sl1 L.ov h)
      (fun _ _ _ => by simp only [chkX, Bool.not_true, Bool.not_false, Bool.false_or, Bool.true_or, Bool.true_and]) (fun _ _ _ => by simp only [wT])
  | .ownd p => leaf (fun k a h => by simp only [chkX, Bool.false_eq_true] at h) (fun _ _ _ => by simp only [chkX, Bool.and_false]) (fun _ _ _ => by simp only [wT])
  | .isc c p => leaf (fun k a h => by
      simp only [chkX, Bool.not_false, Bool.true_or, Bool.true_and] at h
      split at h
      · obtain ⟨h1, h⟩ := and2 h
        obtain ⟨h2, h⟩ := and2 h
        obtain ⟨h3, h⟩ := and2 h
        obtain ⟨h4, h⟩ := and2 h
        obtain ⟨h5, h⟩ := and2 h
        obtain ⟨h6, h7⟩ := and2 h
        cases of_decide_eq_true h1
        obtain ⟨g1, g2⟩ := gl_of k.esc h5
        exact s_isc k (of_decide_eq_true h2) (of_decide_eq_true h3) (gl_of k.esc h4).1 g1 g2 ((sX p k).1 _ h7) h6
      · cases h) (fun _ _ _ => by simp only [chkX, Bool.not_true, Bool.not_false, Bool.false_or, Bool.true_or, Bool.true_and]) (fun _ _ _ => by simp only [wT])
theorem sEs : ∀ (ps : Es), GoodEs R C Γ B m ng N ps
  | .nil => fun k => ⟨fun es h _ => by
      simp only [chkEs] at h
      cases es with
      | nil => exact ⟨s_es0, s_as0⟩
      | cons => (cases h), fun kws h => by
      simp only [chkKs] at h
      cases kws with
      | nil => exact s_ks0
      | cons => (cases h), fun es h => by
      simp only [chkEs] at h
      cases es with
      | nil => exact s_es0
      | cons => (cases h), fun es h => by
      simp only [chkFs] at h
      cases es with
      | nil => exact .nil
      | cons => cases h⟩
  | .star p ps => fun k => ⟨fun es h hs => by
      simp only [chkEs] at h
      split at h
      · simp [noStar, notSt] at hs
      · (cases h), fun kws h => by
      simp [chkKs] at h, fun es h => by
      simp only [chkEs] at h
      split at h
      · obtain ⟨h1, h2⟩ := and2 h
        exact s_esS k.eK ((sX p k).1 _ h1) ((sEs ps k).2.2.1 _ h2)
      · (cases h), fun es h => by
      simp [chkFs] at h⟩
  | .cons p ps => fun k => ⟨fun es h hs => by
      cases es with
      | nil => simp [chkEs] at h
      | cons a es =>
        simp only [chkEs] at h
        obtain ⟨h0, h⟩ := and2 h
        obtain ⟨h1, h2⟩ := and2 h
        obtain ⟨s1, s2⟩ := and2 (show (notSt a && es.all notSt) = true from hs)
        have ha := (sX p k).1 _ h1
        have hr := (sEs ps k).1 _ h2 s2
        exact ⟨s_es1 ha hr.1 (star_cons s1), s_as1 ha hr.2 (star_cons s1)⟩, fun kws h => by
      cases kws with
      | nil => simp [chkKs] at h
      | cons a es =>
        obtain ⟨nm, e, p0⟩ := a
        simp only [chkKs] at h
        obtain ⟨h1, h2⟩ := and2 h
        exact s_ks1 ((sX p k).1 _ h1) ((sEs ps k).2.1 _ h2), fun es h => by
      cases es with
      | nil => simp [chkEs] at h
      | cons a es =>
        simp only [chkEs] at h
        obtain ⟨h0, h⟩ := and2 h
        obtain ⟨h1, h2⟩ := and2 h
        exact s_es1 ((sX p k).1 _ h1) ((sEs ps k).2.2.1 _ h2) (star_cons h0), fun es h => by
      cases es with
      | nil => simp [chkFs] at h
      | cons a es =>
        simp only [chkFs] at h
        obtain ⟨h1, h2⟩ := and2 h
        refine .cons ?_ ((sEs ps k).2.2.2 _ h2)
        split at h1
        · obtain ⟨h3, h4⟩ := and2 h1
          have h3 := of_decide_eq_true h3
          subst h3
          exact p_fmt ((sX p k).1 _ h4)
        · obtain ⟨h3, h4⟩ := and2 h1
          exact p_strE h3 ((sX p k).1 _ h4)
        · cases h1⟩
theorem sI : ∀ (it : I), GoodI R C Γ B m ng N it
  | .ov p => fun k tg a h => by
      simp only [chkI] at h
      exact s_ov k.eK ((sX p k).1 _ h)
  | .rng p => fun k tg a h => by
      simp only [chkI] at h
      split at h
      · obtain ⟨h1, h⟩ := and2 h
        obtain ⟨h2, h⟩ := and2 h
        obtain ⟨h3, h4⟩ := and2 h
        cases of_decide_eq_true h1
        exact s_rng k (gl_of k.esc h2).1 ((sX p k).1 _ h4) h3
      · cases h
  | .rng2 p q => fun k tg a h => by
      simp only [chkI] at h
      split at h
      · obtain ⟨h1, h⟩ := and2 h
        obtain ⟨h2, h⟩ := and2 h
        obtain ⟨h3, h⟩ := and2 h
        obtain ⟨h4, h⟩ := and2 h
        obtain ⟨h5, h6⟩ := and2 h
        cases of_decide_eq_true h1
        exact s_rng2 k (gl_of k.esc h2).1 ((sX p k).1 _ h5) ((sX q k).1 _ h6) h3 h4
      · cases h
  | .zip p q => fun k tg a h => by
      simp only [chkI] at h
      split at h
      · split at h
        · obtain ⟨h1, h⟩ := and2 h
          obtain ⟨h2, h⟩ := and2 h
          obtain ⟨h3, h⟩ := and2 h
          obtain ⟨h4, h⟩ := and2 h
          obtain ⟨h5, h6⟩ := and2 h
          cases of_decide_eq_true h1
          exact s_zip k (gl_of k.esc h2).1 ((sX p k).1 _ h5) ((sX q k).1 _ h6) h3 h4
        · cases h
      · cases h
  | .enm p => fun k tg a h => by
      simp only [chkI] at h
      split at h
      · split at h
        · obtain ⟨h1, h⟩ := and2 h
          obtain ⟨h2, h⟩ := and2 h
          obtain ⟨h3, h4⟩ := and2 h
          cases of_decide_eq_true h1
          exact s_enm k (gl_of k.esc h2).1 ((sX p k).1 _ h4) h3
        · cases h
      · cases h
end
end
end DL

set_option Elab.async false
set_option linter.all false
set_option maxRecDepth 100000
set_option maxHeartbeats 4000000
namespace DL
open PySem L2
section
variable {R : RP} {C : XCl} {Γ : Gm} {B m ng : Nat} {EX : WX} {N : List Str} {sc : Scope} {fb : Str → Bool} {X : Cx} {F : FrD} {σ : St} {ρ ρ' ρ1 : Rho} {H H' H1 : Hp} {n n' n1 nb : Nat}
/-! ### raise -/
theorem xo_raise {c : Nat} {ds : List D} {x : Xr} {Ca : Addr} (k : Ctx R C Γ B m ng EX N sc fb X) (hc : c < Γ.nx) (ec : C.cls c = .ref Ca) (xo : XOk R C F nb x EX) (hx : x c ds ρ) (le : n ≤ nb) (rl : Rl R F ρ n σ H) {vs : List V} (r : RepAll R (MM F ρ σ) H vs ds) :
    (Γ.exf c = [] → vs = [] → EX (.ref Ca) none σ H) ∧ ∀ f v, Γ.exf c = [f] → vs = [v] → ∀ dx, H dx = none → EX (.ref Ca) (some dx) σ (upd H dx (.xd [(f, v)])) := by
  have hn : c < C.n := by rw [k.en]; exact hc
  have fl := (k.xs c hc).fl
  refine ⟨fun e0 e1 => ?_, fun f v e0 e1 dx hd => ?_⟩
  · subst e1
    cases r
    exact xo c [] _ none σ ρ H n hx le rl ⟨ec.symm, hn, .inl ⟨by rw [fl, e0], rfl⟩⟩
  · subst e1
    have sm : Same H (upd H dx (.xd [(f, v)])) := Same.alloc hd
    refine xo c ds _ (some dx) σ ρ _ n hx le (rl.same sm) ⟨ec.symm, hn, .inr ⟨dx, [(f, v)], rfl, rl.fresh hd, upd_same, by rw [fl, e0]; rfl, r.keep (fun _ z => z) (.of_same sm)⟩⟩
theorem s_raise0 {c f : Nat} {y : Str} {p0 p1 pos : Pos} (k : Ctx R C Γ B m ng EX N sc fb X) (hf : f < m) (hk : Γ.fk f = .xi c) (hc : c < Γ.nx) (hy : Γ.exn c = y) (hfs : Γ.exf c = []) (hg : Gl X y) (hdb : (y == ("__debug__" : Str)) = false) :
    PS X (.Raise (some (.Call (.Name y p0) [] [] p1)) none pos) (tS R C Γ B EX (.raise c f .nil)) := by
  have kf := k.fns f hf
  unfold FnD at kf
  rw [hk] at kf
  obtain ⟨ad, Ca, fd, ps', m0, lm, ec, T, iC, tI, F1, hpl, hb⟩ := kf
  obtain ⟨a, ea, gm, xf, nf⟩ := (k.xs c hc).cls
  rw [ec] at ea; cases ea
  have mk := pmkE (es := []) (t := tNil) (p := p0) (pos := p1) T iC tI F1 k.gd (k.room.mono lm) hb hpl (by rw [hfs]; decide) pas0 hg (hy ▸ gm) hdb (fun z => absurd rfl z) (fun _ σ H Q h => h) rfl
  refine imS (ps_raise k.calm k.tk mk) fun D σ H ⟨F, ρ, n, nb, x, P, h⟩ => ?_
  simp only [wS, wEs] at h
  obtain ⟨q0, q1⟩ := xo_raise k hc ec P.xo h (Nat.le_trans (Nat.le_add_right _ _) P.le) P.rl .nil
  exact ⟨by rw [hfs]; rfl, fun e => q0 e rfl, q1⟩
theorem s_raise1 {c f : Nat} {y fn : Str} {e : Expr} {p : E} {p0 p1 pos : Pos} (k : Ctx R C Γ B m ng EX N sc fb X) (hf : f < m) (hk : Γ.fk f = .xi c) (hc : c < Γ.nx) (hy : Γ.exn c = y) (hfs : Γ.exf c = [fn]) (hg : Gl X y) (hdb : (y == ("__debug__" : Str)) = false)
    (he : PE X e (tE R C Γ B EX p)) (hs : notSt e = true) : PS X (.Raise (some (.Call (.Name y p0) [e] [] p1)) none pos) (tS R C Γ B EX (.raise c f (.cons p .nil))) := by
  have kf := k.fns f hf
  unfold FnD at kf
  rw [hk] at kf
  obtain ⟨ad, Ca, fd, ps', m0, lm, ec, T, iC, tI, F1, hpl, hb⟩ := kf
  obtain ⟨a, ea, gm, xf, nf⟩ := (k.xs c hc).cls
  rw [ec] at ea; cases ea
  have mk := pmkE (es := [e]) (p := p0) (pos := p1) T iC tI F1 k.gd (k.room.mono lm) hb hpl (by rw [hfs]; exact Nat.le_refl 1) pas0 hg (hy ▸ gm) hdb (fun _ => s_es1 he s_es0 (star_cons hs)) (fun z => nomatch z) (by show (notSt e && true) = true; rw [hs]; rfl)
  refine imS (ps_raise k.calm k.tk mk) fun D σ H ⟨F, ρ, n, nb, x, P, h⟩ => ?_
  simp only [wS] at h
  simp only [cS] at P h
  refine ⟨F, ρ, n, nb, x, P, ?_⟩
  simp only [wEs] at h ⊢
  refine wE_mono p (xid x) (fun r ρ1 h => escR_mono (fun d ρ2 h vs H1 n1 s1 r1 => ?_) h) h
  obtain ⟨q0, q1⟩ := xo_raise k hc ec P.xo h (Nat.le_trans s1.le P.le) s1.rl r1
  exact ⟨by rw [r1.length, hfs]; rfl, ⟨fun e => (by rw [hfs] at e; cases e), q1⟩⟩
/-! ### what a handler makes of an exception -/
def HEs.len : HEs → Nat
  | .nil => 0
  | .cons _ r => r.len + 1
theorem hEs_len {l : List D} {ρ : Rho} : ∀ {es : HEs} {zs : List D}, hEs l ρ es = some zs → zs.length = es.len
  | .nil, zs, h => by
    simp only [hEs] at h
    cases h; rfl
  | .cons e r, zs, h => by
    simp only [hEs] at h
    split at h
    · rename_i d ds e1 e2
      cases h
      rw [List.length_cons, hEs_len e2, HEs.len]
    · cases h
variable (R C Γ) in
def tHE (c : Nat) (exc : Addr) (ae : Option Nat) (cls : Value) (d : Option Addr) (he : HE) : TE := fun σ H Q => ∃ F ρ n k l, (Γ.exm k c = true ∧ k < Γ.nx) ∧ Rl R F ρ n σ H ∧ XRep R C (MM F ρ σ) H cls d k l ∧ (∀ j, ae = some j → σ[j]? = some (some (.ref exc))) ∧ ∃ z, hE l ρ he = some z ∧ Out R (MM F ρ σ) H Q z
variable (R C Γ) in
def tHEs (c : Nat) (exc : Addr) (ae : Option Nat) (cls : Value) (d : Option Addr) (he : HEs) : TA := fun σ H Q => ∃ F ρ n k l, (Γ.exm k c = true ∧ k < Γ.nx) ∧ Rl R F ρ n σ H ∧ XRep R C (MM F ρ σ) H cls d k l ∧ (∀ j, ae = some j → σ[j]? = some (some (.ref exc))) ∧ ∃ zs, hEs l ρ he = some zs ∧ ∀ vs H', Same H H' → RepAll R (MM F ρ σ) H' vs zs → Q vs H'
def okNm (sc : Scope) (y : Str) : Bool := visB sc y && (!(y == ("__debug__" : Str)) && !(y == ("__classdict__" : Str)))
mutual
def chkH (Γ : Gm) (N : List Str) (sc : Scope) (c : Nat) (ae : Option Nat) : HE → Expr → Bool
  | .int i, a => match a with
    | .Constant (.int j) _ _ => decide (i = j)
    | _ => false
  | .bl i, a => match a with
    | .Constant (.bool j) _ _ => i == j
    | _ => false
  | .non, a => match a with
    | .Constant .none _ _ => true
    | _ => false
  | .str i, a => match a with
    | .Constant (.str j) _ _ => decide (i = j) && sokB i
    | _ => false
  | .var i, a => match a with
    | .Name y _ => decide (N[i]? = some y) && okNm sc y
    | _ => false
  | .inc i k, a => match a with
    | .BinOp (.Name y _) .Add (.Constant (.int j) _ _) _ => decide (k = j) && (decide (N[i]? = some y) && okNm sc y)
    | _ => false
  | .fld j, a => match a with
    | .Attribute (.Name y _) nm _ => (match ae with
      | some q => decide (N[q]? = some y) && (okNm sc y && (decide ((Γ.exf c)[j]? = some nm) && (decide (Γ.exf c).Nodup && (List.range Γ.nx).all fun k => !Γ.exm k c || decide (k = c))))
      | none => false)
    | _ => false
  | .tup es, a => match a with
    | .Tuple as _ _ => decide (es.len ≤ 1000) && chkHs Γ N sc c ae es as
    | _ => false
  | .lst es, a => match a with
    | .List as _ => decide (es.len ≤ 1000) && chkHs Γ N sc c ae es as
    | _ => false
def chkHs (Γ : Gm) (N : List Str) (sc : Scope) (c : Nat) (ae : Option Nat) : HEs → List Expr → Bool
  | .nil, as => as.isEmpty
  | .cons e r, as => match as with
    | a :: as => notSt a && (chkH Γ N sc c ae e a && chkHs Γ N sc c ae r as)
    | [] => false
end
theorem okNm_of {sc : Scope} {y : Str} (eS : X.env.scope = sc) (h : okNm sc y = true) : Vis X.env.scope y ∧ (y == ("__debug__" : Str)) = false ∧ (y == ("__classdict__" : Str)) = false := by
  obtain ⟨h1, h2⟩ := Bool.and_eq_true_iff.mp h
  obtain ⟨h2, h3⟩ := Bool.and_eq_true_iff.mp h2
  exact ⟨vis_of eS h1, by simpa using h2, by simpa using h3⟩
section
variable {c : Nat} {exc : Addr} {ae : Option Nat} {cls : Value} {d : Option Addr} {oe : Obj} {pn : List (Addr × Obj)}
mutual
theorem hE_ok (k : Ctx R C Γ B m ng EX N sc fb X) (hc : c < Γ.nx) (hz : Zc cls d oe) (hf : ∃ vs, oe.data = .fields vs) : ∀ (h : HE) {a : Expr}, chkH Γ N sc c ae h a = true → PE (X.suite exc ((exc, oe) :: pn)) a (tHE R C Γ c exc ae cls d h)
  | .int i, a, q => by
    simp only [chkH] at q
    split at q
    · cases of_decide_eq_true q
      exact imE pe_int fun σ H Q ⟨F, ρ, n, kk, l, _, rl, xr, ha, z, e, o⟩ => by
        cases e
        exact o.now (.int _)
    · cases q
  | .bl i, a, q => by
    simp only [chkH] at q
    split at q
    · cases eq_of_beq q
      exact imE pe_bl fun σ H Q ⟨F, ρ, n, kk, l, _, rl, xr, ha, z, e, o⟩ => by
        cases e
        exact o.now (.bl _)
    · cases q
  | .non, a, q => by
    simp only [chkH] at q
    split at q
    · exact imE pe_non fun σ H Q ⟨F, ρ, n, kk, l, _, rl, xr, ha, z, e, o⟩ => by
        cases e
        exact o.now .non
    · cases q
  | .str i, a, q => by
    simp only [chkH] at q
    split at q
    · obtain ⟨q1, q2⟩ := Bool.and_eq_true_iff.mp q
      cases of_decide_eq_true q1
      exact imE pe_str fun σ H Q ⟨F, ρ, n, kk, l, _, rl, xr, ha, z, e, o⟩ => by
        cases e
        exact o.now (.str _ (by have q3 := (Bool.and_eq_true_iff.mp (show (_ && _) = true from q2)); exact ⟨of_decide_eq_true q3.1, q3.2⟩))
    · cases q
  | .var i, a, q => by
    simp only [chkH] at q
    split at q
    · obtain ⟨q1, q2⟩ := Bool.and_eq_true_iff.mp q
      obtain ⟨v1, v2, v3⟩ := okNm_of (X := X) k.esc q2
      refine imE (pe_var (X := X.suite exc ((exc, oe) :: pn)) (i := i) (k.eN ▸ of_decide_eq_true q1) v1 v2 v3) fun σ H Q ⟨F, ρ, n, kk, l, _, rl, xr, ha, z, e, o⟩ => ?_
      simp only [hE] at e
      split at e
      · rename_i d0 e0
        cases e
        obtain ⟨v, ev, rv⟩ := rl.pv i _ e0
        exact ⟨v, ev, o.now rv⟩
      · cases e
    · cases q
  | .inc i kq, a, q => by
    simp only [chkH] at q
    split at q
    · obtain ⟨q0, q⟩ := Bool.and_eq_true_iff.mp q
      obtain ⟨q1, q2⟩ := Bool.and_eq_true_iff.mp q
      cases of_decide_eq_true q0
      obtain ⟨v1, v2, v3⟩ := okNm_of (X := X) k.esc q2
      refine imE (pe_op (op_bin (R := R) (X := X.suite exc ((exc, oe) :: pn)) k.eK) (pe_var (X := X.suite exc ((exc, oe) :: pn)) (i := i) (k.eN ▸ of_decide_eq_true q1) v1 v2 v3) pe_int) fun σ H Q ⟨F, ρ, n, kk, l, _, rl, xr, ha, z, e, o⟩ => ?_
      simp only [hE] at e
      split at e
      · rename_i j0 e0
        cases e
        obtain ⟨v, ev, rv⟩ := rl.pv i _ e0
        exact ⟨v, ev, MM F ρ σ, .int j0, .int kq, rl.fm, .inl rv, .inl (.int _), o⟩
      · cases e
    · cases q
  | .fld j, a, q => by
    simp only [chkH] at q
    split at q
    · rename_i y p0 nm p1
      split at q
      · rename_i jq
        obtain ⟨q1, q⟩ := Bool.and_eq_true_iff.mp q
        obtain ⟨q2, q⟩ := Bool.and_eq_true_iff.mp q
        obtain ⟨q3, q⟩ := Bool.and_eq_true_iff.mp q
        obtain ⟨q4, q5⟩ := Bool.and_eq_true_iff.mp q
        obtain ⟨v1, v2, v3⟩ := okNm_of (X := X) k.esc q2
        have q3 := of_decide_eq_true q3
        have q4 := of_decide_eq_true q4
        obtain ⟨Ca, ec, gm, xf, nf⟩ := (k.xs c hc).cls
        have fl := (k.xs c hc).fl
        refine imE (pe_xf xf (nf nm (List.mem_of_getElem? q3)) hz hf (pe_var (X := X.suite exc ((exc, oe) :: pn)) (i := jq) (k.eN ▸ of_decide_eq_true q1) v1 v2 v3) (base_of rfl)) fun σ H Q ⟨F, ρ, n, kk, l, ⟨hk1, hk2⟩, rl, xr, ha, z, e, o⟩ => ?_
        have ek : kk = c := by
          have := List.all_eq_true.mp q5 kk (List.mem_range.mpr hk2)
          rw [hk1] at this
          exact of_decide_eq_true this
        subst ek
        simp only [hE] at e
        obtain ⟨x1, x2, x3⟩ := xr
        rw [fl] at x3
        rcases x3 with ⟨x3, _⟩ | ⟨dx, fs, rfl, nm', hx, hfs, rep⟩
        · rw [x3] at q3; cases q3
        obtain ⟨v, ev, rv⟩ := rep.get e
        refine ⟨.ref exc, ha jq rfl, rfl, x1.trans ec, dx, fs, v, rfl, hx, ?_, o.now rv⟩
        exact look_at (by rw [hfs]; exact q4) (by rw [hfs]; exact q3) ev
      · cases q
    · cases q
  | .tup es, a, q => by
    simp only [chkH] at q
    split at q
    · obtain ⟨q1, q2⟩ := Bool.and_eq_true_iff.mp q
      have q1 := of_decide_eq_true q1
      refine imE (pe_tup (hEs_ok k hc hz hf es q2)) fun σ H Q ⟨F, ρ, n, kk, l, hk, rl, xr, ha, z, e, o⟩ => ?_
      simp only [hE] at e
      obtain ⟨zs, e1, rfl⟩ := Option.map_eq_some_iff.mp e
      refine ⟨F, ρ, n, kk, l, hk, rl, xr, ha, zs, e1, fun vs H1 sm r => ?_⟩
      have ln : vs.length ≤ sizeLine := by rw [r.length, hEs_len e1]; exact Nat.le_trans q1 (by decide)
      exact ⟨ln, Out.tup (fun v H2 s2 r2 => o v H2 (sm.trans s2) r2) (rl.same sm).fm r ln⟩
    · cases q
  | .lst es, a, q => by
    simp only [chkH] at q
    split at q
    · obtain ⟨q1, q2⟩ := Bool.and_eq_true_iff.mp q
      have q1 := of_decide_eq_true q1
      refine imE (pe_lst (hEs_ok k hc hz hf es q2)) fun σ H Q ⟨F, ρ, n, kk, l, hk, rl, xr, ha, z, e, o⟩ => ?_
      simp only [hE] at e
      obtain ⟨zs, e1, rfl⟩ := Option.map_eq_some_iff.mp e
      refine ⟨F, ρ, n, kk, l, hk, rl, xr, ha, zs, e1, fun vs H1 sm r => ?_⟩
      have ln : vs.length ≤ sizeLine := by rw [r.length, hEs_len e1]; exact Nat.le_trans q1 (by decide)
      exact ⟨ln, Out.lst (fun v H2 s2 r2 => o v H2 (sm.trans s2) r2) (rl.same sm).fm r ln⟩
    · cases q
theorem hEs_ok (k : Ctx R C Γ B m ng EX N sc fb X) (hc : c < Γ.nx) (hz : Zc cls d oe) (hf : ∃ vs, oe.data = .fields vs) : ∀ (h : HEs) {as : List Expr}, chkHs Γ N sc c ae h as = true → PA (X.suite exc ((exc, oe) :: pn)) as (tHEs R C Γ c exc ae cls d h)
  | .nil, as, q => by
    simp only [chkHs] at q
    cases as with
    | nil =>
      exact imA pa_nil fun σ H Q ⟨F, ρ, n, kk, l, _, rl, xr, ha, zs, e, o⟩ => by
        simp only [hEs] at e
        cases e
        exact o [] H (Same.refl _) .nil
    | cons => cases q
  | .cons h r, as, q => by
    cases as with
    | nil => simp [chkHs] at q
    | cons a as =>
      simp only [chkHs] at q
      obtain ⟨q0, q⟩ := Bool.and_eq_true_iff.mp q
      obtain ⟨q1, q2⟩ := Bool.and_eq_true_iff.mp q
      refine imA (pa_cons (hE_ok k hc hz hf h q1) (hEs_ok k hc hz hf r q2) (star_cons q0)) fun σ H Q ⟨F, ρ, n, kk, l, hk, rl, xr, ha, zs, e, o⟩ => ?_
      simp only [hEs] at e
      split at e
      · rename_i z zs' e1 e2
        cases e
        refine ⟨F, ρ, n, kk, l, hk, rl, xr, ha, z, e1, fun v H1 sm rv => ?_⟩
        have xr1 : XRep R C (MM F ρ σ) H1 cls d kk l := ⟨xr.1, xr.2.1, xr.2.2.imp id fun ⟨dx, fs, f1, f2, f3, f4, f5⟩ => ⟨dx, fs, f1, f2, sm _ _ f3, f4, f5.keep (fun _ z => z) (.of_same sm)⟩⟩
        refine ⟨F, ρ, n, kk, l, hk, rl.same sm, xr1, ha, zs', e2, fun vs H2 s2 rs => ?_⟩
        exact o _ H2 (sm.trans s2) (.cons (rv.keep (fun _ z => z) (.of_same s2)) rs)
      · cases e
end
end
end
end DL

set_option Elab.async false
set_option linter.all false
set_option maxRecDepth 100000
set_option maxHeartbeats 4000000
namespace DL
open PySem L2
section
variable {R : RP} {C : XCl} {Γ : Gm} {B m ng : Nat} {EX : WX} {N : List Str} {sc : Scope} {fb : Str → Bool} {X : Cx} {F : FrD} {σ : St} {ρ ρ' ρ1 : Rho} {H H' H1 : Hp} {n n' n1 nb : Nat}
/-- a slot of which nothing is known is stored -/
theorem Rl.blank (h : Rl R F ρ n σ H) {j : Nat} {x : Option V} (hj : ∀ b d, ρ[j]? ≠ some (some (b, d))) : Rl R F ρ n (σ.set j x) H ∧ ∀ b, MM F ρ (σ.set j x) b ↔ MM F ρ σ b := by
  have ne : ∀ {i : Nat} {b : Bool} {d : D}, ρ[i]? = some (some (b, d)) → j ≠ i := fun {i b d} e z => hj b d (z ▸ e)
  have eM : ∀ b, MM F ρ (σ.set j x) b ↔ MM F ρ σ b := fun b => by
    constructor
    · rintro (m | ⟨i, y, e1, e2⟩)
      · exact .inl m
      · rw [List.getElem?_set_ne (ne e1)] at e2
        exact .inr ⟨i, y, e1, e2⟩
    · rintro (m | ⟨i, y, e1, e2⟩)
      · exact .inl m
      · exact .inr ⟨i, y, e1, by rw [List.getElem?_set_ne (ne e1)]; exact e2⟩
  refine ⟨⟨by simpa using h.len, fun i d e => ?_, fun i d e => ?_, fun i k d e a e1 e2 e3 e4 => ?_, h.ext, h.m0, h.md, h.dk, fun p hp => (h.gh p hp).keep (fun b => (eM b).mp) .refl⟩, eM⟩
  · obtain ⟨v, e1, r⟩ := h.pv i d e
    exact ⟨v, by rw [List.getElem?_set_ne (ne e)]; exact e1, r.keep (fun b => (eM b).mp) .refl⟩
  · obtain ⟨a, e1, w, z⟩ := h.ow i d e
    exact ⟨a, by rw [List.getElem?_set_ne (ne e)]; exact e1, w.keep (fun b => (eM b).mp) .refl (fun _ q => q), z⟩
  · rw [List.getElem?_set_ne (ne e1)] at e3
    rw [List.getElem?_set_ne (ne e2)] at e4
    exact h.inj i k d e a e1 e2 e3 e4
theorem unO_ok {j : Nat} (h : unO ρ (some j) = true) : ∀ d, ρ[j]? ≠ some (some (true, d)) := fun d e => by
  simp only [unO, e] at h
  cases h
theorem none_at {j : Nat} : ∀ b d, (ρ.set j none)[j]? ≠ some (some (b, d)) := fun b d e => by
  rcases set_get e with ⟨_, q⟩ | ⟨q, _⟩
  · cases q
  · exact q rfl
/-- the handler's name is bound -/
theorem Rl.caught (h : Rl R F ρ n σ H) {j : Nat} {x : Option V} (hu : unO ρ (some j) = true) : Rl R F (ρ.set j none) n (σ.set j x) H ∧ ∀ b, MM F (ρ.set j none) (σ.set j x) b → MM F ρ σ b := by
  obtain ⟨r1, m1⟩ := h.forget (unO_ok hu)
  obtain ⟨r2, m2⟩ := r1.blank (x := x) (j := j) none_at
  rw [List.set_set] at r2 m2
  exact ⟨r2, fun b z => (m1 b).mp ((m2 b).mp z)⟩
/-- the wish for a try's body -/
theorem try_core {c i : Nat} {a : Option Nat} {he : HE} {b : Ss} {W : WX} {D : Ends} (k : Ctx R C Γ B m ng EX N sc fb X) (hc : c < Γ.nx) (h : tS R C Γ B EX (.try1 b c a i he) D σ H)
    (yes : ∀ F kk l cls d σ' ρ' H' n', Rl R F ρ' n' σ' H' → XRep R C (MM F ρ' σ') H' cls d kk l → (Γ.exm kk c = true ∧ kk < Γ.nx) → unO ρ' a = true → ∀ z, hE l (forg ρ' a) he = some z →
      (∀ σ'' H'', Rl R F ((forg ρ' a).set i (some (false, z))) n' σ'' H'' → D.nx σ'' H'') → PySem.W.exmOne X.K cls (C.cls c) = some true → W cls d σ' H')
    (no : ∀ cls d σ' H', PySem.W.exmOne X.K cls (C.cls c) = some false → EX cls d σ' H' → W cls d σ' H') : tSs R C Γ B W b D σ H := by
  obtain ⟨F, ρ, n, nb, x, P, h⟩ := h
  simp only [wS] at h
  simp only [cS] at P h
  refine ⟨F, ρ, n, n + cSs Γ b, hX Γ x c a i he (enD R F (n + cSs Γ b) nb D).nx, ⟨P.rl, Nat.le_refl _, Nat.le_trans P.le P.B, ?_⟩, wSs_up h ⟨fun _ q => q, fun d q v H' n' le => q v H' n' (Nat.le_trans le P.le), fun _ q => q, fun _ q => q⟩⟩
  intro kk l cls d σ' ρ' H' n' hx le rl xr
  have hk : kk < Γ.nx := by have := xr.2.1; rw [k.en] at this; exact this
  have em := (k.xs c hc).exm kk hk
  rw [← xr.1] at em
  unfold hX at hx
  cases e : Γ.exm kk c with
  | true =>
    rw [e] at em
    rw [e, if_pos rfl] at hx
    obtain ⟨hu, z, ez, hn⟩ := hx
    exact yes F kk l cls d σ' ρ' H' n' rl xr ⟨e, hk⟩ hu z ez (fun σ'' H'' r2 => hn σ'' H'' n' r2 le) em
  | false =>
    rw [e] at em
    rw [e, if_neg Bool.false_ne_true] at hx
    exact no cls d σ' H' em (P.xo kk l cls d σ' ρ' H' n' hx (Nat.le_trans le P.le) rl xr)
variable {body : List Stmt} {xn nm : Str} {np py p1 pos' pos : Pos} {e : Expr} {b : Ss} {c i ja : Nat} {he : HE}
/-- try: .. except C: x = .. -/
theorem s_tryO (k : Ctx R C Γ B m ng EX N sc fb X) (hst : X.stack = X.env :: X.outer) (hfr : X.env.frame = some X.env.locals) (hc : c < Γ.nx) (hxn : Γ.exn c = xn) (hgx : Gl X xn) (hdb : (xn == ("__debug__" : Str)) = false)
    (hb : ∀ (W : WX) (pn : List (Addr × Obj)) (xe : Value → Shared → Prop), Takes (X.tr pn xe) W → PassesOwn (model X.prog X.w) X.A X.env xe → PSs (X.tr pn xe) body (tSs R C Γ B W b))
    (hi : N[i]? = some nm) (ht : tgtB sc fb nm = true) (hs : swapsWith e (some (.Name nm py)) p1.line X.env = pure false) (hh : chkH Γ N sc c none he e = true) :
    PS X (.Try body [.ExceptHandler (some (.Name xn np)) none [.Assign [.Name nm py] e p1] pos'] [] [] pos) (tS R C Γ B EX (.try1 b c none i he)) := by
  obtain ⟨Ca, ec, gm, _, _⟩ := (k.xs c hc).cls
  have lo := loc_of k ht
  have base := ps_try_only (pos := pos) (np := np) (pos' := pos') (Wout := EX) (c := C.cls c) (tb := fun W => tSs R C Γ B W b) (ts := fun a cls d => tSeq (tAsg (tHE R C Γ c a none cls d he) (gName i)) tNext) hst hfr ⟨hgx, hdb, .inl (by rw [ec, ← hxn]; exact gm)⟩ k.tk hb
    (fun a oe cls d pn hz hf => pss_cons (ps_set (X := X.suite a ((a, oe) :: pn)) (pos' := py) (pos := p1) (k.eN ▸ k.nd) (k.eN ▸ hi) lo.1 (hE_ok k hc hz hf he hh) hs lo.2) pss_nil)
  refine imS base fun D σ H h => ?_
  refine try_core k hc h (fun F kk l cls d σ' ρ' H' n' rl xr hk hu z ez hn em => ⟨true, em, fun _ a ha => ?_, fun q => (nomatch q)⟩) fun cls d σ' H' em hx => ⟨false, em, fun q => (nomatch q), fun _ => hx⟩
  refine ⟨F, ρ', n', kk, l, hk, rl, xr, fun j q => (nomatch q), z, ez, fun v H'' sm rv => ?_⟩
  exact hn _ _ ((rl.same sm).store rv)
/-- try: .. except C as e: x = .. -/
theorem s_tryA {ea : Str} (k : Ctx R C Γ B m ng EX N sc fb X) (hst : X.stack = X.env :: X.outer) (hfr : X.env.frame = some X.env.locals) (hc : c < Γ.nx) (hxn : Γ.exn c = xn) (hgx : Gl X xn) (hdb : (xn == ("__debug__" : Str)) = false)
    (hb : ∀ (W : WX) (pn : List (Addr × Obj)) (xe : Value → Shared → Prop), Takes (X.tr pn xe) W → PassesOwn (model X.prog X.w) X.A X.env xe → PSs (X.tr pn xe) body (tSs R C Γ B W b))
    (hi : N[i]? = some nm) (ht : tgtB sc fb nm = true) (hs : swapsWith e (some (.Name nm py)) p1.line X.env = pure false) (hh : chkH Γ N sc c (some ja) he e = true) (hj : N[ja]? = some ea) (hl : lclB sc ea = true) (hij : i ≠ ja) :
    PS X (.Try body [.ExceptHandler (some (.Name xn np)) (some ea) [.Assign [.Name nm py] e p1] pos'] [] [] pos) (tS R C Γ B EX (.try1 b c (some ja) i he)) := by
  obtain ⟨Ca, ec, gm, _, _⟩ := (k.xs c hc).cls
  have lo := loc_of k ht
  have base := ps_try_as (pos := pos) (np := np) (pos' := pos') (Wout := EX) (c := C.cls c) (tb := fun W => tSs R C Γ B W b) (ts := fun a cls d => tSeq (tAsg (tHE R C Γ c a (some ja) cls d he) (gName i)) tNext) hst hfr (k.eN ▸ k.nd) (k.eN ▸ hj) (by have := of_decide_eq_true hl; rw [← k.esc] at this; exact this) ⟨hgx, hdb, .inl (by rw [ec, ← hxn]; exact gm)⟩ k.tk hb
    (fun a oe cls d pn hz hf => pss_cons (ps_set (X := X.suite a ((a, oe) :: pn)) (pos' := py) (pos := p1) (k.eN ▸ k.nd) (k.eN ▸ hi) lo.1 (hE_ok k hc hz hf he hh) hs lo.2) pss_nil)
  refine ⟨fun pins s σ H D I h => base.run pins s σ H D I ?_⟩
  refine try_core k hc h (fun F kk l cls d σ' ρ' H' n' rl xr hk hu z ez hn em => ⟨true, em, fun _ a ha => ?_, fun q => (nomatch q)⟩) fun cls d σ' H' em hx => ⟨false, em, fun q => (nomatch q), fun _ => hx⟩
  obtain ⟨r1, m1⟩ := rl.caught (x := some (.ref a)) hu
  have lt : ja < σ'.length := by
    rw [← rl.len]
    cases q : ρ'[ja]? with
    | none => simp only [unO, q] at hu; cases hu
    | some o => exact (List.getElem?_eq_some_iff.mp q).1
  refine ⟨F, ρ'.set ja none, n', kk, l, hk, r1, xr.up m1, fun j q => ?_, z, ez, fun v H'' sm rv => ?_⟩
  · cases q
    exact List.getElem?_set_self lt
  · have r3 := (r1.same sm).store (i := i) rv
    have r4 := (r3.blank (j := ja) (x := none) fun b d q => by
      rw [List.getElem?_set_ne hij] at q
      exact none_at b d q).1
    exact hn _ _ r4
end
end DL

set_option Elab.async false
set_option linter.all false
set_option maxRecDepth 100000
set_option maxHeartbeats 4000000
namespace DL
open PySem L2
section
variable {P : Program} {w : World} {K : PySem.W.Frag} {mg : Str → Option Value} {base : Heap} {N : List Str} {FE Ca : Addr} {mc : Value}
/-- the context of an exception's own __init__ -/
structure XiF (K : PySem.W.Frag) (mg : Str → Option Value) (scope : Scope) (y : Str) (FE Ca : Addr) (mc : Value) : Prop where
  gl : globB scope y = true
  mg_ : mg y = some (.ref FE)
  rd : ClX.CRead K FE mc
  at_ : PySem.W.findCls K (.ref FE) mc "__init__" = some (.val (.builtin "Exception.__init__"))
  T : OexE K Ca
theorem xi_fn0 {qual x : Str} {params : Arguments} {scope : Scope} {kws : List (Str × V)} {f : Addr} {fd : FuncData} {sf y txt : Str} {body : List Stmt} {j : Nat} {p0 p1 p2 p3 p4 p5 : Pos} (F : FunD K x qual params body scope [] kws f fd) (S : FnScope N [sf] scope)
    (hb : body = [.Expr (.Call (.Attribute (.Name y p0) "__init__" p1) [.Name sf p2, .Constant (.str txt) j p3] [] p4) p5])
    (hf : XiF K mg scope y FE Ca mc) (h0 : N[0]? = some sf) (hv : okNm scope sf = true) (hl : (p1.endLine == p4.line) = true) :
    FnA true P w K mg base (L2.CX P w) 1 f fd [sf] (spX Ca []) := by
  subst hb
  refine FnA.of_body F S (fun vs H Q E ⟨a, us, e, hl, _⟩ => by rw [e, List.length_cons, hl]; rfl) fun cdv A outer s H vs Q E gd hr hsp => ?_
  obtain ⟨a, us, rfl, hlen, ea, hq, _⟩ := hsp
  have e0 : us = [] := List.eq_nil_of_length_eq_zero hlen
  subst e0
  generalize hX : cxOf (L2.CX P w) P w K mg base N qual scope f cdv A outer s H E = X
  have eS : X.env.scope = scope := by rw [← hX]; rfl
  have eN : X.N = N := by rw [← hX]; rfl
  have eq : X.prog = P ∧ X.w = w ∧ X.K = K ∧ X.mg = mg ∧ X.base = base := by rw [← hX]; exact ⟨rfl, rfl, rfl, rfl, rfl⟩
  obtain ⟨rfl, rfl, rfl, rfl, rfl⟩ := eq
  obtain ⟨g1, g2⟩ := gl_of eS hf.gl
  obtain ⟨v1, v2, v3⟩ := okNm_of eS hv
  have pv : PE X (.Name sf p2) (tVar 0) := pe_var (by rw [eN]; exact h0) v1 v2 v3
  have call := pe_initE (ap := p1) (pos := p4) (p0 := p0) g1 hf.mg_ g2 hf.rd hf.at_ (pa_cons pv (pa_cons (pe_str (X := X)) pa_nil (star_cons (a := .Constant (.str txt) j p3) rfl)) (star_cons (a := .Name sf p2) rfl)) rfl (show 2 < 30 by decide) hl
  refine ⟨_, pss_cons (ps_expr call (sw_no rfl)) pss_nil, ?_⟩
  exact ⟨.ref a, rfl, a, Ca, [.str txt], rfl, (show 1 ≤ 1000 by decide), hf.T, ea, hq rfl⟩
theorem xi_fn1 {qual x : Str} {params : Arguments} {scope : Scope} {kws : List (Str × V)} {f : Addr} {fd : FuncData} {sf pm y txt fn : Str} {body : List Stmt} {j : Nat} {p0 p1 p2 p3 p4 p5 p6 p7 p8 p9 : Pos} (F : FunD K x qual params body scope [] kws f fd) (S : FnScope N [sf, pm] scope)
    (hb : body = [.Expr (.Call (.Attribute (.Name y p0) "__init__" p1) [.Name sf p2, .Constant (.str txt) j p3] [] p4) p5, .Assign [.Attribute (.Name sf p6) fn p7] (.Name pm p8) p9])
    (hf : XiF K mg scope y FE Ca mc) (hno : PySem.W.findIn K (.ref Ca) fn = some none) (h0 : N[0]? = some sf) (h1 : N[1]? = some pm) (hv : okNm scope sf = true) (hv1 : okNm scope pm = true) (hl : (p1.endLine == p4.line) = true) :
    FnA true P w K mg base (L2.CX P w) 1 f fd [sf, pm] (spX Ca [fn]) := by
  subst hb
  refine FnA.of_body F S (fun vs H Q E ⟨a, us, e, hl, _⟩ => by rw [e, List.length_cons, hl]; rfl) fun cdv A outer s H vs Q E gd hr hsp => ?_
  obtain ⟨a, us, rfl, hlen, ea, _, hq⟩ := hsp
  obtain ⟨y1, rfl⟩ : ∃ y1, us = [y1] := by
    match us, hlen with
    | [y1], _ => exact ⟨y1, rfl⟩
  generalize hX : cxOf (L2.CX P w) P w K mg base N qual scope f cdv A outer s H E = X
  have eS : X.env.scope = scope := by rw [← hX]; rfl
  have eN : X.N = N := by rw [← hX]; rfl
  have eq : X.prog = P ∧ X.w = w ∧ X.K = K ∧ X.mg = mg ∧ X.base = base := by rw [← hX]; exact ⟨rfl, rfl, rfl, rfl, rfl⟩
  obtain ⟨rfl, rfl, rfl, rfl, rfl⟩ := eq
  obtain ⟨g1, g2⟩ := gl_of eS hf.gl
  obtain ⟨v1, v2, v3⟩ := okNm_of eS hv
  obtain ⟨u1, u2, u3⟩ := okNm_of eS hv1
  have pv : ∀ {p : Pos}, PE X (.Name sf p) (tVar 0) := fun {p} => pe_var (by rw [eN]; exact h0) v1 v2 v3
  have pu : PE X (.Name pm p8) (tVar 1) := pe_var (by rw [eN]; exact h1) u1 u2 u3
  have call := pe_initE (ap := p1) (pos := p4) (p0 := p0) g1 hf.mg_ g2 hf.rd hf.at_ (pa_cons (pv (p := p2)) (pa_cons (pe_str (X := X)) pa_nil (star_cons (a := .Constant (.str txt) j p3) rfl)) (star_cons (a := .Name sf p2) rfl)) rfl (show 2 < 30 by decide) hl
  refine ⟨_, pss_cons (ps_expr call (sw_no rfl)) (pss_cons (ps_ostE (fn := fn) (p1 := p7) (pos := p9) (pv (p := p6)) pu (sw_no rfl)) pss_nil), ?_⟩
  refine ⟨.ref a, rfl, a, Ca, [.str txt], rfl, (show 1 ≤ 1000 by decide), hf.T, ea, ?_⟩
  exact ⟨y1, rfl, .ref a, rfl, a, Ca, rfl, hf.T, hno, ea, fun dx hd ne => hq fn y1 rfl rfl dx hd ne⟩
end
end DL

set_option Elab.async false
set_option linter.all false
set_option maxRecDepth 100000
set_option maxHeartbeats 4000000
namespace DL
open PySem L2
/-- name = [..]: on one line, the name a plain local that the block does not own -/
def swpB (sc : Scope) : Expr → Expr → Bool
  | .Name y py, .ListComp _ _ scope cpos => lclB sc y && (decide (sc.kind = .function) && ((py.line == cpos.line) && !(scope.names.any fun (n, k) => n == y && (k == .local || k == .cell))))
  | _, _ => false
/-- the value's stores are not swapped -/
def stayB (sc : Scope) : Expr → Expr → Bool
  | .Name y _, .ListComp .. => decide (sc.names.lookup y = some .cell)
  | .Tuple _ _ _, .ListComp .. => true
  | _, v => notComp v
/-- no pair of names against a pair of values -/
def celB (sc : Scope) : Expr → Bool
  | .Name x _ => !decide (sc.names.lookup x = some .local)
  | _ => false
def unparB (sc : Scope) : Expr → Expr → Bool
  | .Tuple ts _ _, .Tuple _ _ _ => ts.any (celB sc)
  | .List _ _, _ => false
  | _, _ => true
section
variable (Γ : Gm) (m ng : Nat) (N : List Str)
def chkO (sc : Scope) (fb : Str → Bool) : E → Expr → Bool
  | .lst ps, a => match a with
    | .List es _ => chkEs Γ m ng N sc fb ps es
    | _ => false
  | .dct0, a => match a with
    | .Dict [] [] _ => true
    | _ => false
  | .lc elt g it cond own, a => chkX Γ m ng N sc fb false (.lc elt g it cond own) a
  | .lc2 elt g it cond g1 it1 cond1 own ow1, a => chkX Γ m ng N sc fb false (.lc2 elt g it cond g1 it1 cond1 own ow1) a
  | .ownd (.bin .Add p q), a => match a with
    | .BinOp x .Add y _ => chkX Γ m ng N sc fb false p x && chkX Γ m ng N sc fb false q y
    | _ => false
  | .ownd (.slU p q), a => match a with
    | .Subscript x (.Slice none (some y) none _) _ => chkX Γ m ng N sc fb false p x && chkX Γ m ng N sc fb false q y
    | _ => false
  | .ownd (.mth id p ps), a => match a with
    | .Call (.Attribute o nm ap) (e :: es) [] pos => decide (id = "str.split") && (decide (nm = "split") && (notBase o && (noStar (e :: es) && (decide ((e :: es).length < 30) && ((ap.endLine == pos.line) && (chkX Γ m ng N sc fb false p o && chkEs Γ m ng N sc fb ps (e :: es)))))))
    | _ => false
  | _, _ => false
mutual
def chkS (sc : Scope) (fb : Str → Bool) : S → Stmt → Bool
  | .asg g e, st => match st with
    | .Assign [tg] v _ => notSt tg && (unparB sc tg v && ((stayB sc tg v || swpB sc tg v) && (chkG N sc fb g tg && chkX Γ m ng N sc fb false e v)))
    | _ => false
  | .asgO i e, st => match st with
    | .Assign [.Name y py] v _ => decide (N[i]? = some y) && (tgtB sc fb y && ((stayB sc (.Name y py) v || swpB sc (.Name y py) v) && chkO Γ m ng N sc fb e v))
    | _ => false
  | .par js ps, st => match st with
    | .Assign [.Tuple [.Name x px, .Name y py] _ _] (.Tuple [a, b] _ _) _ => (match js with
      | [i, j] => decide (sc.kind = .function) && (decide (N[i]? = some x) && (decide (N[j]? = some y) && (decide (i ≠ j) && (lclB sc x && (lclB sc y && ((py.line == px.line) && (noStar [a, b] && (!([a, b].all (foldedForSure 8)) && (!([a, b].all (constantsAlone 8)) && chkEs Γ m ng N sc fb ps [a, b])))))))))
      | _ => false)
    | .Assign [.Tuple [.Name x px, .Name y py, .Name z pz] _ _] (.Tuple [a, b, c] _ _) _ => (match js with
      | [i, j, l] => decide (sc.kind = .function) && (decide (N[i]? = some x) && (decide (N[j]? = some y) && (decide (N[l]? = some z) && (decide (i ≠ j) && (decide (i ≠ l) && (decide (j ≠ l) && (lclB sc x && (lclB sc y && (lclB sc z && ((py.line == px.line) && ((pz.line == px.line) && (noStar [a, b, c] &&
          (!([a, b, c].all (foldedForSure 8)) && (!([a, b, c].all (constantsAlone 8)) && chkEs Γ m ng N sc fb ps [a, b, c]))))))))))))))
      | _ => false)
    | _ => false
  | .parO i j p q, st => match st with
    | .Assign [.Tuple [.Name x px, .Name y py] _ _] (.Tuple [a, b] _ _) _ => decide (sc.kind = .function) && (decide (N[i]? = some x) && (decide (N[j]? = some y) && (decide (i ≠ j) && (lclB sc x && (lclB sc y && ((py.line == px.line) && (noStar [a, b] && (!([a, b].all (foldedForSure 8)) && (!([a, b].all (constantsAlone 8)) && (chkO Γ m ng N sc fb p a && chkX Γ m ng N sc fb false q b))))))))))
    | _ => false
  | .aug i op e, st => match st with
    | .AugAssign (.Name y _) o v _ => decide (op = o) && (decide (N[i]? = some y) && (tgtB sc fb y && chkX Γ m ng N sc fb false e v))
    | _ => false
  | .setix i k e, st => match st with
    | .Assign [.Subscript (.Name x _) b _] v _ => notSl b && (notComp v && ((decide (N[i]? = some x) && (visB sc x && (!(x == ("__debug__" : Str)) && !(x == ("__classdict__" : Str))))) && (chkX Γ m ng N sc fb false k b && chkX Γ m ng N sc fb false e v)))
    | _ => false
  | .exp e, st => match st with
    | .Expr v _ => notComp v && chkX Γ m ng N sc fb false e v
    | _ => false
  | .ret e, st => match st with
    | .Return (some v) _ => chkX Γ m ng N sc fb false e v
    | _ => false
  | .retN, st => match st with
    | .Return none _ => true
    | _ => false
  | .ite c a b, st => match st with
    | .If t x y _ => chkX Γ m ng N sc fb true c t && (chkSs sc fb a x && chkSs sc fb b y)
    | _ => false
  | .for g it b, st => match st with
    | .For tg iter body [] _ => notSet iter && (chkI Γ m ng N sc fb it tg iter && (chkG N sc fb g tg && chkSs sc fb b body))
    | _ => false
  | .whl c b, st => match st with
    | .While t body [] _ => chkX Γ m ng N sc fb true c t && chkSs sc fb b body
    | _ => false
  | .brk, st => match st with
    | .Break _ => true
    | _ => false
  | .cnt, st => match st with
    | .Continue _ => true
    | _ => false
  | .rse, st => match st with
    | .Raise _ _ _ => true
    | _ => false
  | .raise c f ps, st => match st with
    | .Raise (some (.Call (.Name y _) as [] _)) none _ => decide (f < m) && (decide (Γ.fk f = .xi c) && (decide (c < Γ.nx) && (decide (Γ.exn c = y) && (globB sc y && (match as, ps with
      | [], .nil => decide (Γ.exf c = [])
      | [e], .cons p .nil => decide ((Γ.exf c).length = 1) && (notSt e && chkX Γ m ng N sc fb false p e)
      | _, _ => false)))))
    | _ => false
  | .try1 b c a i h, st => match st with
    | .Try body [.ExceptHandler (some (.Name xn _)) an [.Assign [.Name y py] e p1] _] [] [] _ => decide (c < Γ.nx) && (decide (Γ.exn c = xn) && (globB sc xn && (chkSs sc fb b body && (decide (N[i]? = some y) && (tgtB sc fb y && (notComp e && (chkH Γ N sc c a h e && (match an, a with
      | none, none => true
      | some ea, some ja => decide (N[ja]? = some ea) && (lclB sc ea && decide (i ≠ ja))
      | _, _ => false))))))))
    | _ => false
  | .pass, st => match st with
    | .Pass _ => true
    | .Expr (.Constant (.str _) _ _) _ => true
    | _ => false
def chkSs (sc : Scope) (fb : Str → Bool) : Ss → List Stmt → Bool
  | .nil, sts => sts.isEmpty
  | .cons s ss, sts => match sts with
    | [] => false
    | st :: sts => chkS sc fb s st && chkSs sc fb ss sts
end
end
theorem sw_cell {y : Str} {py : Pos} {el : Expr} {gs : List Comprehension} {scope : Scope} {cpos : Pos} {l : Nat} {env : Env} (h : env.scope.names.lookup y = some .cell) : swapsWith (.ListComp el gs scope cpos) (some (.Name y py)) l env = pure false := by
  have ky : env.kindOf y = some .cell := h
  unfold swapsWith
  simp only [ky]
  have : ((some NameKind.cell == some NameKind.local) : Bool) = false := by decide
  rw [this, Bool.and_false, Bool.false_and, Bool.false_and]
theorem stay_ok {sc : Scope} {tg v : Expr} {l : Nat} {env : Env} (hs : env.scope = sc) (h : stayB sc tg v = true) : swapsWith v (some tg) l env = pure false := by
  subst hs
  unfold stayB at h
  split at h
  · exact sw_cell (of_decide_eq_true h)
  · rfl
  · exact sw_no h
theorem fm_lt {α β : Type} {f : α → Option β} {l : List α} {a : α} (h : a ∈ l) (e : f a = none) : (l.filterMap f).length < l.length := by
  induction l with
  | nil => cases h
  | cons b l ih =>
    rw [List.length_cons]
    rcases List.mem_cons.mp h with rfl | h
    · rw [List.filterMap_cons_none e]
      exact Nat.lt_succ_of_le (List.length_filterMap_le f l)
    · have := ih h
      cases q : f b with
      | none => rw [List.filterMap_cons_none q]; omega
      | some c => rw [List.filterMap_cons_some q, List.length_cons]; omega
theorem unpar_cell {ts vs : List Expr} {k k2 : Nat} {p p2 : Pos} {env : Env} {x : Str} {px : Pos} (hx : Expr.Name x px ∈ ts) (hc : (env.kindOf x == some .local) = false) : swappedStores [.Tuple ts k p] (.Tuple vs k2 p2) env = pure none := by
  unfold swappedStores
  simp only []
  split
  · rfl
  split
  · rfl
  have key : ∀ line : Nat, (ts.filterMap fun | .Name id pos => if env.kindOf id == some .local && pos.line == line then some id else none | _ => none).length < ts.length := fun line => fm_lt hx (by show (if env.kindOf x == some .local && px.line == line then some x else none) = none; rw [hc]; rfl)
  rw [if_pos ?_]
  · have := key (((ts.head?.map (·.pos.line)).getD 0))
    rw [Bool.or_eq_true]
    exact .inl (bne_iff_ne.mpr (Nat.ne_of_lt this))
theorem unpar_ok {tg v : Expr} {env : Env} {sc : Scope} (hs : env.scope = sc) (h : unparB sc tg v = true) : swappedStores [tg] v env = pure none := by
  cases tg with
  | Tuple es k p =>
    cases v with
    | Tuple vs k2 p2 =>
      obtain ⟨e, he, hc⟩ := List.any_eq_true.mp (show es.any (celB sc) = true from h)
      cases e with
      | Name x px =>
        have hc : (!decide (sc.names.lookup x = some .local)) = true := hc
        refine unpar_cell he ?_
        rw [beq_eq_false_iff_ne]
        intro q
        have q : env.scope.names.lookup x = some .local := q
        rw [hs] at q
        rw [decide_eq_true q] at hc
        cases hc
      | _ => cases hc
    | _ => rfl
  | List es p => simp [unparB] at h
  | _ => rfl
section
variable {R : RP} {C : XCl} {Γ : Gm} {B m ng : Nat} {N : List Str}
theorem asg_nm {EX : WX} {i : Nat} {p : E} {te : TE} (hE : ∀ σ H Q, tE R C Γ B EX p σ H Q → te σ H Q) {D : Ends} {σ : St} {H : Hp} (h : tS R C Γ B EX (.asg (.nm i) p) D σ H) : tAsg te (gName i) D σ H := by
  obtain ⟨F, ρ, n, nb, x, P, h⟩ := h
  simp only [wS] at h
  simp only [cS] at P h
  refine hE _ _ _ (s_one P (Nat.le_refl _) h fun r ρ1 v H1 n1 h s1 r1 => ?_)
  obtain ⟨d, ρ2, h, s2, r2⟩ := r1.esc s1.rl h
  simp only [setG] at h
  exact h _ _ n1 (s2.rl.store r2) s1.le
theorem sO {EX : WX} {sc : Scope} {fb : Str → Bool} {X : Cx} (k : Ctx R C Γ B m ng EX N sc fb X) {e : E} {a : Expr} (h : chkO Γ m ng N sc fb e a = true) : PE X a (tO R C Γ B EX e) := by
  unfold chkO at h
  split at h
  · split at h
    · exact o_lst ((sEs _ k).2.2.1 _ h)
    · cases h
  · split at h
    · exact o_dct0
    · cases h
  · obtain ⟨el, tgx, iter, ifs, scope, pos, rfl, L⟩ := lcF_of (sI _) (sX _) (sX _) k h
    exact imE (pe_lc k.calm (k.eN ▸ k.nd) L.it_ (by rw [k.eN, k.esc]; exact L.ok) L.g_ L.t_ L.e_ L.f_) fun σ H Q h => lc_own L.sl h
  · obtain ⟨el, tgx, iter, ifs, tgx1, iter1, ifs1, scope, pos, rfl, L⟩ := lc2F_of (sI _) (sX _) (sI _) (sX _) (sX _) k h
    exact imE (pe_lc2 k.calm (k.eN ▸ k.nd) L.it_ (by rw [k.eN, k.esc]; exact L.ok) L.ov L.g_ L.t_ L.i1_ L.g1_ L.t1_ L.e_ L.f_ L.f1_) fun σ H Q h => lc2_own L.sl L.sl1 L.ov h
  · split at h
    · obtain ⟨h1, h2⟩ := and2 h
      exact o_add ((sX _ k).1 _ h1) ((sX _ k).1 _ h2)
    · cases h
  · split at h
    · obtain ⟨h1, h2⟩ := and2 h
      exact o_slU ((sX _ k).1 _ h1) ((sX _ k).1 _ h2)
    · cases h
  · split at h
    · obtain ⟨h1, h⟩ := and2 h
      obtain ⟨h2, h⟩ := and2 h
      obtain ⟨h3, h⟩ := and2 h
      obtain ⟨h4, h⟩ := and2 h
      obtain ⟨h5, h⟩ := and2 h
      obtain ⟨h6, h⟩ := and2 h
      obtain ⟨h7, h8⟩ := and2 h
      cases of_decide_eq_true h1
      cases of_decide_eq_true h2
      exact o_split k ((sX _ k).1 _ h7) ((sEs _ k).1 _ h8 h4).2 h3 h4 (of_decide_eq_true h5) h6
    · cases h
  · cases h
/-- the context of a def's body (not of a block) -/
structure CtxS (R : RP) (C : XCl) (Γ : Gm) (B m ng : Nat) (EX : WX) (N : List Str) (sc : Scope) (fb : Str → Bool) (X : Cx) : Prop where
  k : Ctx R C Γ B m ng EX N sc fb X
  own : PassesOwn (model X.prog X.w) X.A X.env X.xe
  stk : X.stack = X.env :: X.outer
  frm : X.env.frame = some X.env.locals
/-- in a try's body -/
theorem CtxS.tr {EX W : WX} {sc : Scope} {fb : Str → Bool} {X : Cx} (K : CtxS R C Γ B m ng EX N sc fb X) {pn : List (Addr × Obj)} {xe : Value → Shared → Prop} (tk : Takes (X.tr pn xe) W) (ow : PassesOwn (model X.prog X.w) X.A X.env xe) : CtxS R C Γ B m ng W N sc fb (X.tr pn xe) :=
  ⟨⟨K.k.eN, K.k.nd, K.k.esc, K.k.eK, K.k.calm, K.k.room, K.k.gd, K.k.hat, K.k.sys, tk, K.k.fns, K.k.cl, K.k.glb, K.k.bl, K.k.en, K.k.xs, K.k.fnc⟩, ow, K.stk, K.frm⟩
mutual
theorem sS {EX : WX} {sc : Scope} {fb : Str → Bool} {X : Cx} (K : CtxS R C Γ B m ng EX N sc fb X) : ∀ (s : S) {st : Stmt}, chkS Γ m ng N sc fb s st = true → PS X st (tS R C Γ B EX s)
  | .asg g e, st, h => by
    have k := K.k
    simp only [chkS] at h
    split at h
    · obtain ⟨h1, h⟩ := and2 h
      obtain ⟨h2, h⟩ := and2 h
      obtain ⟨h3, h⟩ := and2 h
      obtain ⟨h4, h5⟩ := and2 h
      rcases Bool.or_eq_true_iff.mp h3 with h3 | h3
      · exact s_asg ((sX e k).1 _ h5) (s_tg k g h4) (sole.trans (stay_ok k.esc h3)) (unpar_ok k.esc h2) h1
      · unfold swpB at h3
        split at h3
        · rename_i tg v pos y py el gs scope cpos
          obtain ⟨w1, h3⟩ := and2 h3
          obtain ⟨w2, h3⟩ := and2 h3
          obtain ⟨w3, w4⟩ := and2 h3
          cases g with
          | tp gs => simp [chkG] at h4
          | nm i =>
            simp only [chkG] at h4
            obtain ⟨i1, i2⟩ := and2 h4
            cases e with
            | lc elt g' it cond own =>
              obtain ⟨el', tgx, iter, ifs, scope', pos', e1, L⟩ := lcF_of (sI _) (sX _) (sX _) k h5
              cases e1
              exact s_setLc k (of_decide_eq_true i1) w1 (of_decide_eq_true w2) w3 (notB w4) L.it_ L.ok L.g_ L.t_ L.e_ L.f_ fun D σ H n hn hi hr => asg_nm (fun _ _ _ h => lc_read L.sl h) hr
            | lc2 elt g' it cond g1' it1 cond1 own ow1 =>
              obtain ⟨el', tgx, iter, ifs, tgx1, iter1, ifs1, scope', pos', e1, L⟩ := lc2F_of (sI _) (sX _) (sI _) (sX _) (sX _) k h5
              cases e1
              exact s_setLc2 k (of_decide_eq_true i1) w1 (of_decide_eq_true w2) w3 (notB w4) L.it_ L.ok L.ov L.g_ L.t_ L.i1_ L.g1_ L.t1_ L.e_ L.f_ L.f1_ fun D σ H n hn hi hr => asg_nm (fun _ _ _ h => lc2_read L.sl L.sl1 L.ov h) hr
            | _ => simp [chkX] at h5
        · cases h3
    · cases h
  | .asgO i e, st, h => by
    have k := K.k
    simp only [chkS] at h
    split at h
    · rename_i y py v pos
      obtain ⟨h1, h⟩ := and2 h
      obtain ⟨h2, h⟩ := and2 h
      obtain ⟨h3, h5⟩ := and2 h
      rcases Bool.or_eq_true_iff.mp h3 with h3 | h3
      · exact s_asgO k (sO k h5) (of_decide_eq_true h1) h2 (stay_ok k.esc h3)
      · cases v with
        | ListComp el gs scope cpos =>
          simp only [swpB] at h3
          obtain ⟨w1, h3⟩ := and2 h3
          obtain ⟨w2, h3⟩ := and2 h3
          obtain ⟨w3, w4⟩ := and2 h3
          cases e with
          | lc elt g' it cond own =>
            simp only [chkO] at h5
            obtain ⟨el', tgx, iter, ifs, scope', pos', e1, L⟩ := lcF_of (sI _) (sX _) (sX _) k h5
            cases e1
            exact s_setLc k (of_decide_eq_true h1) w1 (of_decide_eq_true w2) w3 (notB w4) L.it_ L.ok L.g_ L.t_ L.e_ L.f_ fun D σ H n hn hi hr =>
              asgO_core (fun _ _ _ h => lc_own L.sl h) (fun rl => by rw [hn rl]; exact hi) hr
          | lc2 elt g' it cond g1' it1 cond1 own ow1 =>
            simp only [chkO] at h5
            obtain ⟨el', tgx, iter, ifs, tgx1, iter1, ifs1, scope', pos', e1, L⟩ := lc2F_of (sI _) (sX _) (sI _) (sX _) (sX _) k h5
            cases e1
            exact s_setLc2 k (of_decide_eq_true h1) w1 (of_decide_eq_true w2) w3 (notB w4) L.it_ L.ok L.ov L.g_ L.t_ L.i1_ L.g1_ L.t1_ L.e_ L.f_ L.f1_ fun D σ H n hn hi hr =>
              asgO_core (fun _ _ _ h => lc2_own L.sl L.sl1 L.ov h) (fun rl => by rw [hn rl]; exact hi) hr
          | lst ps => simp [chkO] at h5
          | dct0 => simp [chkO] at h5
          | ownd z =>
            exfalso
            cases z with
            | bin o p q => cases o <;> simp [chkO] at h5
            | slU p q => simp [chkO] at h5
            | mth id p ps => simp [chkO] at h5
            | _ => simp [chkO] at h5
          | _ => simp [chkO] at h5
        | _ => simp [swpB] at h3
    · cases h
  | .par js ps, st, h => by
    have k := K.k
    simp only [chkS] at h
    split at h
    · split at h
      · obtain ⟨h0, h⟩ := and2 h
        obtain ⟨h1, h⟩ := and2 h
        obtain ⟨h2, h⟩ := and2 h
        obtain ⟨h3, h⟩ := and2 h
        obtain ⟨h4, h⟩ := and2 h
        obtain ⟨h5, h⟩ := and2 h
        obtain ⟨h6, h⟩ := and2 h
        obtain ⟨h7, h⟩ := and2 h
        obtain ⟨h8, h⟩ := and2 h
        obtain ⟨h9, h10⟩ := and2 h
        exact s_par2 k (of_decide_eq_true h0) (of_decide_eq_true h1) (of_decide_eq_true h2) (of_decide_eq_true h3) h4 h5 h6 ((sEs ps k).1 _ h10 h7).1 h7 (notB h8) (notB h9)
      · cases h
    · split at h
      · obtain ⟨h0, h⟩ := and2 h
        obtain ⟨h1, h⟩ := and2 h
        obtain ⟨h2, h⟩ := and2 h
        obtain ⟨h2', h⟩ := and2 h
        obtain ⟨h3, h⟩ := and2 h
        obtain ⟨h3', h⟩ := and2 h
        obtain ⟨h3'', h⟩ := and2 h
        obtain ⟨h4, h⟩ := and2 h
        obtain ⟨h5, h⟩ := and2 h
        obtain ⟨h5', h⟩ := and2 h
        obtain ⟨h6, h⟩ := and2 h
        obtain ⟨h6', h⟩ := and2 h
        obtain ⟨h7, h⟩ := and2 h
        obtain ⟨h8, h⟩ := and2 h
        obtain ⟨h9, h10⟩ := and2 h
        exact s_par3 k (of_decide_eq_true h0) (of_decide_eq_true h1) (of_decide_eq_true h2) (of_decide_eq_true h2') (of_decide_eq_true h3) (of_decide_eq_true h3') (of_decide_eq_true h3'') h4 h5 h5' h6 h6' ((sEs ps k).1 _ h10 h7).1 h7 (notB h8) (notB h9)
      · cases h
    · cases h
  | .parO i j p q, st, h => by
    have k := K.k
    simp only [chkS] at h
    split at h
    · obtain ⟨h0, h⟩ := and2 h
      obtain ⟨h1, h⟩ := and2 h
      obtain ⟨h2, h⟩ := and2 h
      obtain ⟨h3, h⟩ := and2 h
      obtain ⟨h4, h⟩ := and2 h
      obtain ⟨h5, h⟩ := and2 h
      obtain ⟨h6, h⟩ := and2 h
      obtain ⟨h7, h⟩ := and2 h
      obtain ⟨h8, h⟩ := and2 h
      obtain ⟨h9, h⟩ := and2 h
      obtain ⟨h10, h11⟩ := and2 h
      exact s_parO k (of_decide_eq_true h0) (of_decide_eq_true h1) (of_decide_eq_true h2) (of_decide_eq_true h3) h4 h5 h6 (sO k h10) ((sX q k).1 _ h11) h7 (notB h8) (notB h9)
    · cases h
  | .aug i op e, st, h => by
    have k := K.k
    simp only [chkS] at h
    split at h
    · obtain ⟨h1, h⟩ := and2 h
      obtain ⟨h2, h⟩ := and2 h
      obtain ⟨h3, h4⟩ := and2 h
      cases of_decide_eq_true h1
      exact s_aug k ((sX e k).1 _ h4) (of_decide_eq_true h2) h3
    · cases h
  | .setix i kk e, st, h => by
    have k := K.k
    simp only [chkS] at h
    split at h
    · obtain ⟨h1, h⟩ := and2 h
      obtain ⟨h2, h⟩ := and2 h
      obtain ⟨h3, h⟩ := and2 h
      obtain ⟨h4, h5⟩ := and2 h
      obtain ⟨v1, h3⟩ := and2 h3
      obtain ⟨v2, h3⟩ := and2 h3
      obtain ⟨v3, v4⟩ := and2 h3
      exact s_setix (pe_var (k.eN ▸ of_decide_eq_true v1) (vis_of k.esc v2) (notB v3) (notB v4)) ((sX kk k).1 _ h4) ((sX e k).1 _ h5) h1 h2
    · cases h
  | .exp e, st, h => by
    have k := K.k
    simp only [chkS] at h
    split at h
    · obtain ⟨h1, h2⟩ := and2 h
      exact s_exp ((sX e k).1 _ h2) h1
    · cases h
  | .ret e, st, h => by
    have k := K.k
    simp only [chkS] at h
    split at h
    · exact s_ret ((sX e k).1 _ h)
    · cases h
  | .retN, st, h => by
    simp only [chkS] at h
    split at h
    · exact s_retN
    · cases h
  | .raise c f ps, st, h => by
    have k := K.k
    simp only [chkS] at h
    split at h
    · obtain ⟨h1, h⟩ := and2 h
      obtain ⟨h2, h⟩ := and2 h
      obtain ⟨h3, h⟩ := and2 h
      obtain ⟨h4, h⟩ := and2 h
      obtain ⟨h5, h⟩ := and2 h
      obtain ⟨g1, g2⟩ := gl_of k.esc h5
      split at h
      · exact s_raise0 k (of_decide_eq_true h1) (of_decide_eq_true h2) (of_decide_eq_true h3) (of_decide_eq_true h4) (of_decide_eq_true h) g1 g2
      · obtain ⟨h6, h⟩ := and2 h
        obtain ⟨h7, h8⟩ := and2 h
        have l1 := of_decide_eq_true h6
        cases e : Γ.exf c with
        | nil => rw [e] at l1; cases l1
        | cons fn r =>
          cases r with
          | nil => exact s_raise1 k (of_decide_eq_true h1) (of_decide_eq_true h2) (of_decide_eq_true h3) (of_decide_eq_true h4) e g1 g2 ((sX _ k).1 _ h8) h7
          | cons g r => rw [e] at l1; cases l1
      · cases h
    · cases h
  | .try1 b c a i he, st, h => by
    have k := K.k
    simp only [chkS] at h
    split at h
    · obtain ⟨h1, h⟩ := and2 h
      obtain ⟨h2, h⟩ := and2 h
      obtain ⟨h3, h⟩ := and2 h
      obtain ⟨h4, h⟩ := and2 h
      obtain ⟨h5, h⟩ := and2 h
      obtain ⟨h6, h⟩ := and2 h
      obtain ⟨h7, h⟩ := and2 h
      obtain ⟨h8, h⟩ := and2 h
      obtain ⟨g1, g2⟩ := gl_of k.esc h3
      have hb : ∀ (W : WX) (pn : List (Addr × Obj)) (xe : Value → Shared → Prop), Takes (X.tr pn xe) W → PassesOwn (model X.prog X.w) X.A X.env xe → PSs (X.tr pn xe) _ (tSs R C Γ B W b) := fun W pn xe tk ow => sSs (K.tr tk ow) b h4
      split at h
      · exact s_tryO k K.stk K.frm (of_decide_eq_true h1) (of_decide_eq_true h2) g1 g2 hb (of_decide_eq_true h5) h6 (sw_no h7) h8
      · obtain ⟨h9, h⟩ := and2 h
        obtain ⟨h10, h11⟩ := and2 h
        exact s_tryA k K.stk K.frm (of_decide_eq_true h1) (of_decide_eq_true h2) g1 g2 hb (of_decide_eq_true h5) h6 (sw_no h7) h8 (of_decide_eq_true h9) h10 (of_decide_eq_true h11)
      · cases h
    · cases h
  | .rse, st, h => by
    simp only [chkS] at h
    split at h
    · exact s_rse
    · cases h
  | .ite c a b, st, h => by
    have k := K.k
    simp only [chkS] at h
    split at h
    · obtain ⟨h1, h⟩ := and2 h
      obtain ⟨h2, h3⟩ := and2 h
      exact s_if ((sX c k).2 _ h1) (sSs K a h2) (sSs K b h3)
    · cases h
  | .for g it b, st, h => by
    have k := K.k
    simp only [chkS] at h
    split at h
    · obtain ⟨h1, h⟩ := and2 h
      obtain ⟨h2, h⟩ := and2 h
      obtain ⟨h3, h4⟩ := and2 h
      exact s_for k K.own (sI it k _ _ h2) (s_tg k g h3) (sSs K b h4) (fold_of h1)
    · cases h
  | .whl c b, st, h => by
    have k := K.k
    simp only [chkS] at h
    split at h
    · obtain ⟨h1, h2⟩ := and2 h
      exact s_while K.own ((sX c k).2 _ h1) (sSs K b h2)
    · cases h
  | .brk, st, h => by
    simp only [chkS] at h
    split at h
    · exact s_brk
    · cases h
  | .cnt, st, h => by
    simp only [chkS] at h
    split at h
    · exact s_cnt
    · cases h
  | .pass, st, h => by
    simp only [chkS] at h
    split at h
    · exact s_pass
    · exact s_doc
    · cases h
theorem sSs {EX : WX} {sc : Scope} {fb : Str → Bool} {X : Cx} (K : CtxS R C Γ B m ng EX N sc fb X) : ∀ (s : Ss) {sts : List Stmt}, chkSs Γ m ng N sc fb s sts = true → PSs X sts (tSs R C Γ B EX s)
  | .nil, sts, h => by
    simp only [chkSs] at h
    cases sts with
    | nil => exact s_nil
    | cons => cases h
  | .cons s ss, sts, h => by
    cases sts with
    | nil => simp [chkSs] at h
    | cons st sts =>
      simp only [chkSs] at h
      obtain ⟨h1, h2⟩ := and2 h
      exact s_seq (sS K s h1) (sSs K ss h2)
end
end
end DL

set_option Elab.async false
set_option linter.all false
set_option maxRecDepth 100000
set_option maxHeartbeats 4000000
namespace DL
open PySem L2
/-- the slots at a def's entry -/
def start0 (N : List Str) (ds : List D) : Rho := ds.map (fun d => some (false, d)) ++ List.replicate (N.length - ds.length) none
/-- a def's reading -/
def wFn (Γ : Gm) (N : List Str) (b : Ss) (ds : List D) (Q : D → Prop) (x : Xp) : Prop := wSs Γ (xl x) b { nx := fun _ => Q .non, rt := Q } (start0 N ds)
/-- what is fixed for a law -/
structure Sys (R : RP) (C : XCl) (Γ : Gm) (ng : Nat) (K : PySem.W.Frag) (mg : Str → Option Value) : Prop where
  hK : R.K = K
  hat : ∀ n, R.atm n ≠ .non
  sys : SysOk K
  cl : ∀ c, c < Γ.ncl → COk R Γ K mg c
  glb : ∀ g, g < ng → ∃ u v, mg (Γ.gname g) = some u ∧ RelV v u ∧ ∀ M H, Rep R M H v (Γ.gD g)
  bl : ∀ id, id ∈ bltNms → mg (Str.ofString id) = none
  en : C.n = Γ.nx
  xs : ∀ c, c < Γ.nx → EOk C Γ K mg c
section
variable {R : RP} {C : XCl} {Γ : Gm} {B m ng : Nat} {N : List Str} {P : Program} {w : World} {K : PySem.W.Frag} {mg : Str → Option Value} {base : Heap}
theorem start_rl {M : Addr → Prop} {H : Hp} {vs : List V} {ds : List D} {n : Nat} (m0 : ∀ a, M a → ∃ o, H a = some o) (md : M R.dd ∧ M R.dl) (dk : DeckOk R n H) (r : RepAll R M H vs ds) (hl : vs.length ≤ N.length) : Rl R ⟨M, H, []⟩ (start0 N ds) n (L2.start N vs) H := by
  have el := r.length
  have key : ∀ (i : Nat) (b : Bool) (d : D), (start0 N ds)[i]? = some (some (b, d)) → b = false ∧ ∃ v, (L2.start N vs)[i]? = some (some v) ∧ Rep R M H v d := fun i b d e => by
    unfold start0 at e
    by_cases hi : i < ds.length
    · rw [List.getElem?_append_left (by simpa using hi), List.getElem?_map] at e
      cases ed : ds[i]? with
      | none => rw [ed] at e; cases e
      | some d' =>
        rw [ed] at e
        cases e
        obtain ⟨v, e1, e2⟩ := r.get ed
        refine ⟨rfl, v, ?_, e2⟩
        unfold L2.start
        rw [List.getElem?_append_left (by rw [List.length_map, el]; exact hi), List.getElem?_map, e1]; rfl
    · rw [List.getElem?_append_right (by simpa using hi), List.getElem?_replicate] at e
      split at e <;> cases e
  have sub : ∀ a, MM ⟨M, H, []⟩ (start0 N ds) (L2.start N vs) a → M a := fun a z => by
    rcases z with z | ⟨i, d, e1, _⟩
    · exact z
    · cases (key i true d e1).1
  refine ⟨?_, fun i d e => ?_, fun i d e => ?_, fun i j d e a e1 => ?_, .refl, m0, md, dk, fun p hp => nomatch hp⟩
  · unfold start0 L2.start
    simp [el]
  · obtain ⟨_, v, e1, e2⟩ := key i false d e
    exact ⟨v, e1, e2.keep sub .refl⟩
  · cases (key i true d e).1
  · cases (key i true d e1).1
theorem XOk0.body {M : Addr → Prop} {H : Hp} {nb : Nat} {x : Xp} {E : XK} (h : XOk0 R C M H nb x E) : XOk R C ⟨M, H, []⟩ nb (xl x) (fun cls d _ H => E cls d H) :=
  fun c l cls d σ ρ' H' n' hx le rl xr => h c l cls d H' n' hx le rl.ext rl.dk (xr.up fun _ z => .inl z)
/-- THE RULE for a def: the words are those of its text, what it is promised to do follows from their reading -/
theorem fn_chk {x qual : Str} {params : Arguments} {body : List Stmt} {scope : Scope} {dvs : List V} {kws : List (Str × V)} {f : Addr} {fd : FuncData} {ps : List Str} {ar fc : Nat} {phi : List D → (D → Prop) → Xp → Prop} {b : Ss}
    (F : FunD K x qual params body scope dvs kws f fd) (S : FnScope N ps scope) (sy : Sys R C Γ ng K mg) (fns : ∀ f, f < m → FnD R C Γ B P w K mg base m f) (hp : ps.length = ar) (hc : chkSs Γ m ng N scope (fun _ => true) b body = true) (hf : cSs Γ b ≤ fc)
    (hphi : ∀ ds Q x, ds.length = ar → phi ds Q x → wFn Γ N b ds Q x) : FnA true P w K mg base (L2.CX P w) (2 * m + 1) f fd ps (spP R C B ar fc phi) := by
  refine FnA.of_body F S (spP.len hp) fun cdv A outer s H vs Q E gd hr hsp => ?_
  obtain ⟨M, ds, n, x, m0, md, dk, le, hl, rep, xo, h⟩ := hsp
  have k : CtxS R C Γ B m ng (fun cls d _ H => E cls d H) N scope (fun _ => true) (cxOf (L2.CX P w) P w K mg base N qual scope f cdv A outer s H E) := by
    refine ⟨⟨rfl, S.nd, rfl, sy.hK, rfl, hr, gd rfl, sy.hat, sy.sys, takes_of (E₁ := fun e' s'' => L2.CX P w outer H s E e' s'') rfl rfl rfl rfl, fns, sy.cl, sy.glb, sy.bl, sy.en, sy.xs, fun _ _ => rfl⟩, ?_, ?_, ?_⟩
    exact passes_of (K := fun e s'' => L2.CX P w outer H s E e s'') (E₁ := fun e' s'' => L2.CX P w outer H s E e' s'') rfl
    all_goals rfl
  refine ⟨_, sSs k b hc, ⟨M, H, []⟩, start0 N ds, n, n + fc, xl x, ⟨start_rl m0 md dk rep ?_, by omega, le, xo.body⟩, wSs_up (hphi ds _ x hl h) ⟨fun ρ' q σ' H' n' rl le' => ?_, fun d q v H' n' le' kk dk' rp => ?_, fun _ z => z.elim, fun _ z => z.elim⟩⟩
  · have := congrArg List.length S.pre
    rw [List.length_take] at this
    rw [rep.length, hl, ← hp]; omega
  · exact q .non H' n' (by omega) rl.ext rl.dk .non
  · exact q v H' n' le' kk dk' rp
end
end DL

set_option Elab.async false
set_option linter.all false
set_option maxRecDepth 100000
set_option maxHeartbeats 4000000
/-! A class's __init__: words that do not name the new thing, then its attributes are stored. -/
namespace DL
open PySem L2
def chkT (N : List Str) (sc : Scope) : List Str → List Nat → List Stmt → Bool
  | [], [], sts => sts.isEmpty
  | nm :: nms, j :: js, sts => match sts with
    | .Assign [.Attribute (.Name x _) y _] (.Name z _) _ :: sts => decide (N[0]? = some x) && (visB sc x && (!(x == ("__debug__" : Str)) && (!(x == ("__classdict__" : Str)) && (decide (N[j]? = some z) && (visB sc z && (!(z == ("__debug__" : Str)) && (!(z == ("__classdict__" : Str)) && (decide (y = nm) && chkT N sc nms js sts))))))))
    | _ => false
  | _, _, _ => false
section
variable {R : RP} {C : XCl} {Γ : Gm} {B m ng : Nat} {EX : WX} {N : List Str} {sc : Scope} {fb : Str → Bool} {X : Cx} {F : FrD} {σ : St} {ρ ρ' ρ1 : Rho} {H H' H1 : Hp} {n n' n1 c nb : Nat}
theorem sSs_app {u : TS} {tl : List Stmt} (K : CtxS R C Γ B m ng EX N sc fb X) (hu : PSs X tl u) : ∀ (b : Ss) {pre : List Stmt}, chkSs Γ m ng N sc fb b pre = true → PSs X (pre ++ tl) (fun D σ H => tSs R C Γ B EX b { D with nx := u D } σ H)
  | .nil, pre, h => by
    simp only [chkSs] at h
    cases pre with
    | nil =>
      refine imSs hu fun D σ H ⟨F, ρ, n, nb, x, P, h⟩ => ?_
      simp only [wSs] at h
      exact h _ _ n P.rl (Nat.le_add_right _ _)
    | cons => cases h
  | .cons s ss, pre, h => by
    cases pre with
    | nil => simp [chkSs] at h
    | cons st sts =>
      simp only [chkSs] at h
      obtain ⟨h1, h2⟩ := and2 h
      refine imSs (pss_cons (sS K s h1) (sSs_app K hu ss h2)) fun D σ H ⟨F, ρ, n, nb, x, P, h⟩ => ?_
      simp only [wSs] at h
      simp only [cSs] at P h
      refine ⟨F, ρ, n, nb, x, P.dn (Nat.le_add_right _ _), wS_up h ⟨fun ρ' w σ' H' n' rl le => ?_, fun d w => w, fun ρ' w σ' H' n' rl le => w σ' H' n' rl (by omega), fun ρ' w σ' H' n' rl le => w σ' H' n' rl (by omega)⟩⟩
      exact ⟨F, ρ', n', nb, x, P.of rl (by have := P.le; omega), wSs_up w (enD_le (by omega))⟩
theorem putF_new {f : Str} {v : V} : ∀ {fs : List (Str × V)}, f ∉ fs.map (·.1) → putF f v fs = fs ++ [(f, v)]
  | [], _ => rfl
  | (g, x) :: r, h => by
    simp only [List.map_cons, List.mem_cons, not_or] at h
    unfold putF
    rw [if_neg (fun e => h.1 e.symm), putF_new h.2]; rfl
def tTail (R : RP) (c : Nat) (nms : List Str) (js : List Nat) : TS := fun D σ H => ∃ (xa dx : Addr) (fvs : List (Str × V)) (vs : List V), σ[0]? = some (some (.ref xa)) ∧ H xa = some (.ins (R.cls c) dx fvs) ∧ (∀ nm ∈ nms, nm ∉ fvs.map (·.1)) ∧ fvs.length + nms.length < 1000 ∧
  js.map (fun j => σ[j]?) = vs.map (fun v => some (some v)) ∧ ∀ H', (∀ a, a ≠ xa → H' a = H a) → H' xa = some (.ins (R.cls c) dx (fvs ++ nms.zip vs)) → D.nx σ H'
theorem tail_ps (k : Ctx R C Γ B m ng EX N sc fb X) (co : COk R Γ X.K X.mg c) : ∀ (nms : List Str) (js : List Nat) {sts : List Stmt}, chkT N sc nms js sts = true → (∀ nm ∈ nms, nm ∈ Γ.cfl c) → nms.Nodup → PSs X sts (tTail R c nms js)
  | [], [], sts, h, _, _ => by
    cases sts with
    | nil =>
      refine imSs pss_nil fun D σ H ⟨xa, dx, fvs, vs, _, hx, _, _, _, q⟩ => ?_
      refine q H (fun _ _ => rfl) ?_
      rw [List.zip_nil_left, List.append_nil]; exact hx
    | cons => simp [chkT] at h
  | nm :: nms, j :: js, sts, h, hm, nd => by
    unfold chkT at h
    split at h
    · rename_i x p1 y p2 z p3 p4 sts
      obtain ⟨h1, h⟩ := and2 h
      obtain ⟨h2, h⟩ := and2 h
      obtain ⟨h3, h⟩ := and2 h
      obtain ⟨h4, h⟩ := and2 h
      obtain ⟨h5, h⟩ := and2 h
      obtain ⟨h6, h⟩ := and2 h
      obtain ⟨h7, h⟩ := and2 h
      obtain ⟨h8, h⟩ := and2 h
      obtain ⟨h9, hT⟩ := and2 h
      cases of_decide_eq_true h9
      have nd' := List.nodup_cons.mp nd
      have ih := tail_ps k co nms js hT (fun q hq => hm q (List.mem_cons_of_mem _ hq)) nd'.2
      have p1' := pe_var (X := X) (pos := p1) (k.eN ▸ of_decide_eq_true h1) (vis_of k.esc h2) (notB h3) (notB h4)
      have p2' := pe_var (X := X) (pos := p3) (k.eN ▸ of_decide_eq_true h5) (vis_of k.esc h6) (notB h7) (notB h8)
      refine imSs (pss_cons (ps_fld p1' p2' (sw_no rfl)) ih) fun D σ H ⟨xa, dx, fvs, vs, e0, hx, nin, hl, hv, q⟩ => ?_
      cases vs with
      | nil => simp at hv
      | cons v vs =>
        simp only [List.map_cons, List.cons.injEq] at hv
        refine ⟨v, hv.1, .ref xa, e0, xa, R.cls c, dx, fvs, rfl, hx, co.cls, co.na nm (hm nm (List.mem_cons_self ..)), by simp at hl; omega, ?_⟩
        have nn := nin nm (List.mem_cons_self ..)
        refine ⟨xa, dx, fvs ++ [(nm, v)], vs, e0, by rw [upd_same, putF_new nn], fun q hq => ?_, by simp at hl ⊢; omega, hv.2, fun H' k1 k2 => q H' (fun a ha => ?_) ?_⟩
        · rw [List.map_append, List.mem_append, not_or]
          refine ⟨nin q (List.mem_cons_of_mem _ hq), fun e => ?_⟩
          simp at e
          exact nd'.1 (e ▸ hq)
        · rw [k1 a ha, upd_ne ha]
        · rw [k2]
          simp [List.zip_cons_cons]
    · cases h
  | [], _ :: _, _, h, _, _ => by simp [chkT] at h
  | _ :: _, [], _, h, _, _ => by simp [chkT] at h
theorem chkT_len : ∀ (nms : List Str) (js : List Nat) {sts : List Stmt}, chkT N sc nms js sts = true → js.length = nms.length
  | [], [], _, _ => rfl
  | nm :: nms, j :: js, sts, h => by
    unfold chkT at h
    split at h
    · obtain ⟨_, h⟩ := and2 h
      obtain ⟨_, h⟩ := and2 h
      obtain ⟨_, h⟩ := and2 h
      obtain ⟨_, h⟩ := and2 h
      obtain ⟨_, h⟩ := and2 h
      obtain ⟨_, h⟩ := and2 h
      obtain ⟨_, h⟩ := and2 h
      obtain ⟨_, h⟩ := and2 h
      obtain ⟨_, h⟩ := and2 h
      simp [chkT_len nms js h]
    · cases h
  | [], _ :: _, _, h => by simp [chkT] at h
  | _ :: _, [], _, h => by simp [chkT] at h
theorem slots_rep (rl : Rl R F ρ n σ H) : ∀ {js : List Nat} {es : List D}, js.map (fun j => ρ[j]?) = es.map (fun d => some (some (false, d))) → ∃ vs : List V, js.map (fun j => σ[j]?) = vs.map (fun v => some (some v)) ∧ RepAll R (MM F ρ σ) H vs es
  | [], [], _ => ⟨[], rfl, .nil⟩
  | [], _ :: _, h => by simp at h
  | _ :: _, [], h => by simp at h
  | j :: js, d :: es, h => by
    simp only [List.map_cons, List.cons.injEq] at h
    obtain ⟨v, e1, r1⟩ := rl.pv j d h.1
    obtain ⟨vs, e2, r2⟩ := slots_rep rl h.2
    exact ⟨v :: vs, by simp [e1, e2], .cons r1 r2⟩
/-- an __init__'s reading -/
def wIn (Γ : Gm) (c : Nat) (N : List Str) (b : Ss) (js : List Nat) (ds : List D) (Q : D → Prop) (x : Xp) : Prop := ∀ i, wSs Γ (xl x) b { nx := fun ρ => ρ[0]? = some (some (false, .atom i)) ∧ ∃ es, js.map (fun j => ρ[j]?) = es.map (fun d => some (some (false, d))) ∧ Q (.obj c es), rt := fun _ => False } (start0 N (.atom i :: ds))
end
section
variable {R : RP} {C : XCl} {Γ : Gm} {B m ng : Nat} {N : List Str} {P : Program} {w : World} {K : PySem.W.Frag} {mg : Str → Option Value} {base : Heap}
theorem init_chk {x qual : Str} {params : Arguments} {body pre tl : List Stmt} {scope : Scope} {dvs : List V} {kws : List (Str × V)} {f : Addr} {fd : FuncData} {ps : List Str} {ar fc c : Nat} {phi : List D → (D → Prop) → Xp → Prop} {b : Ss} {js : List Nat}
    (F : FunD K x qual params body scope dvs kws f fd) (S : FnScope N ps scope) (sy : Sys R C Γ ng K mg) (hat : ∀ a : Addr, ∃ i, R.atm i = .ref a) (fns : ∀ f, f < m → FnD R C Γ B P w K mg base m f) (hp : ps.length = ar + 1) (hb : body = pre ++ tl) (hc : chkSs Γ m ng N scope (fun _ => true) b pre = true)
    (ht : chkT N scope (Γ.cfl c) js tl = true) (hcl : c < Γ.ncl) (hsm : (Γ.cfl c).length < 1000) (hf : cSs Γ b ≤ fc) (hphi : ∀ ds Q x, ds.length = ar → phi ds Q x → wIn Γ c N b js ds Q x) : FnA true P w K mg base (L2.CX P w) (2 * m + 1) f fd ps (spI R C B ar fc c phi) := by
  subst hb
  refine FnA.of_body F S (fun vs H Q E hsp => ?_) fun cdv A outer s H vs Q E gd hr hsp => ?_
  · obtain ⟨M, ds, n, x, xa, dx, us, rfl, _, _, _, _, _, _, hl, rep, _⟩ := hsp
    rw [List.length_cons, rep.length, hl, hp]
  obtain ⟨M, ds, n, x, xa, dx, us, rfl, hxa, nxa, m0, md, dk, le, hl, rep, xo, h⟩ := hsp
  have k : CtxS R C Γ B m ng (fun cls d _ H => E cls d H) N scope (fun _ => true) (cxOf (L2.CX P w) P w K mg base N qual scope f cdv A outer s H E) := by
    refine ⟨⟨rfl, S.nd, rfl, sy.hK, rfl, hr, gd rfl, sy.hat, sy.sys, takes_of (E₁ := fun e' s'' => L2.CX P w outer H s E e' s'') rfl rfl rfl rfl, fns, sy.cl, sy.glb, sy.bl, sy.en, sy.xs, fun _ _ => rfl⟩, ?_, ?_, ?_⟩
    exact passes_of (K := fun e s'' => L2.CX P w outer H s E e s'') (E₁ := fun e' s'' => L2.CX P w outer H s E e' s'') rfl
    all_goals rfl
  obtain ⟨i, hi⟩ := hat xa
  have co := sy.cl c hcl
  have tp := tail_ps k.k co (Γ.cfl c) js ht (fun _ h => h) co.nd
  have hw := hphi ds _ x hl h i
  have rep' : RepAll R (fun a => M a ∨ a = xa) H (.ref xa :: us) (.atom i :: ds) := .cons (hi ▸ .atom i) rep
  have ndd : xa ≠ R.dd := fun e => nxa (e ▸ md.1)
  have ndl : xa ≠ R.dl := fun e => nxa (e ▸ md.2)
  refine ⟨_, sSs_app k tp b hc, ⟨fun a => M a ∨ a = xa, H, []⟩, start0 N (.atom i :: ds), n, n + fc, xl x, ⟨start_rl (fun a z => ?_) ⟨.inl md.1, .inl md.2⟩ dk rep' ?_, by omega, le, fun c' l cls d σ ρ' H' n' hx hn k1 k3 => xo c' l cls d H' n' hx hn k1.ext k1.dk (k3.up fun a z => .inl (.inl z))⟩, wSs_up hw ⟨fun ρ' q σ' H' n' rl le' => ?_, fun d q => q.elim, fun _ z => z.elim, fun _ z => z.elim⟩⟩
  · rcases z with z | rfl
    · exact m0 a z
    · exact ⟨_, hxa⟩
  · have := congrArg List.length S.pre
    rw [List.length_take] at this
    rw [rep'.length, List.length_cons, hl, ← hp]; omega
  · obtain ⟨q0, es, q1, q⟩ := q
    obtain ⟨v0, e0, r0⟩ := rl.pv 0 _ q0
    have hx' : H' xa = some (.ins (R.cls c) dx []) := rl.ext xa _ ndd ndl hxa
    obtain ⟨vs, ev, rv⟩ := slots_rep rl q1
    have ea : v0 = .ref xa := by
      rw [← hi]
      cases r0
      rfl
    subst ea
    refine ⟨xa, dx, [], vs, e0, hx', fun nm _ => by simp, by simpa using hsm, ev, fun H'' k1 k2 => ?_⟩
    have kk : ExtM (MM ⟨fun a => M a ∨ a = xa, H, []⟩ ρ' σ') H' H'' := fun a o nm e => by
      rw [k1 a fun z => nm (.inl (.inr z))]; exact e
    have le2 : n' ≤ n + fc := by omega
    obtain ⟨ne, l, bb, d1, d2, d3⟩ := rl.dk
    have jl : js.length = (Γ.cfl c).length := chkT_len _ _ ht
    refine q H'' n' le2 (fun a o n1 n2 n3 e => by rw [k1 a n3]; exact rl.ext a o n1 n2 e) ⟨ne, l, bb, by rw [k1 _ ndd.symm]; exact d1, by rw [k1 _ ndl.symm]; exact d2, d3⟩ ?_
    have lv : vs.length = (Γ.cfl c).length := by
      have := congrArg List.length ev
      rw [List.length_map, List.length_map] at this
      omega
    refine .obj nxa k2 ?_ ?_
    · rw [List.nil_append, co.fl, List.map_fst_zip (by omega)]
    · rw [List.nil_append, List.map_snd_zip (by omega)]
      exact rv.keep (fun a z => .inl (.inl z)) kk
end
end DL

set_option Elab.async false
set_option linter.all false
set_option maxRecDepth 100000
set_option maxHeartbeats 4000000
/-! the law's end for defs of the kind FnA (after HandS.Ends and HandS.HeadEnd) -/
namespace DL
open PySem PySem.Spec PyProof.Rows L2
/-- THE HEAD: the law's promise, at the heap behind the top. F, the promise of the law's def, may use that base is part of the heap (so K.In base, base.Ns mainGlobals mg stand in Mod) -/
theorem law_callA {P : Program} {w : World} {K : PySem.W.Frag} {mg mb : Str → Option Value} {CX : CXT} {k : Nat} {fa a : Addr} {fd : FuncData} {x : Str} {sp : Sp} {s₁ : Shared} {vs : List Value} {ns : List Int}
    (KX : K.In s₁.heap) (hns : s₁.heap.Ns mainGlobals mg) (hb : s₁.heap.Ns builtinsNs mb) (hbb : ∀ x : Str, x ≠ "__name__" → mb x = bootBuiltins x) (hlim : s₁.heap.NoLimit) (hg : s₁.gens = #[])
    (ha : s₁.heap.get? a = some { cls := .type "list", data := .seq vs.toArray }) (hi : IntsAre vs ns) (hl : ns.length ≤ sizeLine) (hr : Room k callerA)
    (F : ∀ base : Heap, K.In base → base.Ns mainGlobals mg → FnA true P w K mg base CX k fa fd [x] sp) (hbind : ∀ (s : Shared) (u : Value), BindsTo s fd ⟨[u], []⟩ [(x, u)])
    (hsp : ∀ H : Hp, Only H → SqL K H a (ns.map V.int) → sp [.ref a] H (fun v _ => v = .bl true) fun _ _ _ => False)
    (hCX : ∀ H e s', CX [] H s₁ (fun _ _ _ => False) e s' → False) :
    codeAny (model P w) callerA (.call (.ref fa) ⟨[.ref a], []⟩) (fun r s' => r = .ok (.ret (.bool true)) ∧ OldK s₁.heap s'.heap ∧ s'.os = s₁.os ∧ AllBare s'.gens) s₁ := by
  have rv := vals_ints hi
  have lenV := hi.length
  -- from an abstract heap in which nothing but the script may be tracked
  have core : ∀ H : Hp, Only H → SqL K H a (ns.map V.int) → HOk P w H s₁.heap → (∀ b, H b ≠ none → b = a) → (H a ≠ none → K.lookup a = none) →
      codeAny (model P w) callerA (.call (.ref fa) ⟨[.ref a], []⟩) (fun r s' => r = .ok (.ret (.bool true)) ∧ OldK s₁.heap s'.heap ∧ s'.os = s₁.os ∧ AllBare s'.gens) s₁ := by
    intro H hO hS hok hA hK
    have base_of : ∀ {b : Addr} {o : Obj}, s₁.heap.get? b = some o → H b = none → (hidT s₁.heap H).get? b = some o := fun e n => hidT_get e n
    have noA : ∀ {b : Addr} {o : Obj} {es : Array DictEntry} {ep : Nat}, s₁.heap.get? b = some o → o.data = .dict es ep → H b = none := fun {b o es ep} e d => by
      cases q : H b with
      | none => rfl
      | some u =>
        have e' : b = a := hA b (by rw [q]; simp)
        subst e'
        rw [ha] at e; cases e
        have d' : Data.seq vs.toArray _ = Data.dict es ep := d
        cases d'
    have nsK : ∀ {b : Addr} {m : Str → Option Value}, s₁.heap.Ns b m → (hidT s₁.heap H).Ns b m := fun {b m} ⟨o, es, ep, e, d, r⟩ => ⟨o, es, ep, base_of e (noA e d), d, r⟩
    have hKb : K.In (hidT s₁.heap H) := fun b o e => base_of (KX b o e) (by
      cases q : H b with
      | none => rfl
      | some u =>
        have e' : b = a := hA b (by rw [q]; simp)
        subst e'
        rw [hK (by rw [q]; simp)] at e; cases e)
    have hM : Mod K mg (hidT s₁.heap H) := ⟨hKb, nsK hns, ⟨mb, nsK hb, hbb⟩, let ⟨mc, h1, h2⟩ := hlim; ⟨mc, nsK h1, h2⟩⟩
    have e0 : Env0 P w K mg (hidT s₁.heap H) callerA [] s₁ H := ⟨rfl, hM, fun b o e => of_hidT e, Nat.le_of_eq (hidT_size _ _), trivial, fun b hb => absurd (show b ∈ ([] : List Addr) from hb) (by simp), hok, .of_eq hg⟩
    refine codeAny_mono ((F _ hKb (nsK hns)).run callerA [] s₁ H ⟨[.ref a], []⟩ [.ref a] [.ref a] _ _ (fun _ => rfl) hr e0 (hbind s₁ (.ref a)) (.cons rfl .nil) (hsp H hO hS)) fun r s' h => ?_
    cases r with
    | error e => exact (hCX H e s' h).elim
    | ok fl =>
      cases fl with
      | next => exact False.elim h
      | brk => exact False.elim h
      | cont => exact False.elim h
      | ret u =>
        obtain ⟨v, H', os, bare, un, hok', r', q⟩ := h
        have q' : v = .bl true := q
        subst q'
        obtain rfl : u = Value.bool true := r'
        refine ⟨rfl, OldK.of_keep fun b o e => ?_, os, bare⟩
        cases q : H b with
        | none => exact un.keep b o e q (by intro z; exact absurd (show b ∈ ([] : List Addr) from z) (by simp)) (by simp)
        | some u =>
          rcases hO b with z | ⟨ob, xs, z⟩
          · rw [q] at z; cases z
          · have z2 := un.frzs b ob _ z
            obtain ⟨e1, _⟩ := hok b _ z
            obtain ⟨e2, _⟩ := hok' b _ z2
            rw [e] at e1; cases e1
            exact e2
  cases hk : K.lookup a with
  | some o =>
    -- the script is one of the module's own objects
    have e := KX a o hk
    rw [ha] at e
    cases e
    refine core (fun _ => none) (fun _ => .inl rfl) (.inr ⟨_, vs.toArray, _, hk, rfl, rfl, rfl, by rw [List.size_toArray, lenV]; exact hl, by simpa using rv⟩) (fun b u z => by have z' : (none : Option HO) = some u := z; cases z') (fun b z => absurd rfl z) fun z => absurd rfl z
  | none =>
    refine core (fun b => if b = a then some (.frz { cls := .type "list", data := .seq vs.toArray } (.lst (ns.map V.int))) else none) (fun b => ?_) (.inl (.inr ⟨{ cls := .type "list", data := .seq vs.toArray }, if_pos rfl⟩)) (fun b u z => ?_) (fun b z => ?_) fun _ => hk
    · by_cases hb : b = a
      · exact .inr ⟨_, _, if_pos hb⟩
      · exact .inl (if_neg hb)
    · by_cases hb : b = a
      · have z' := (if_pos hb).symm.trans z
        cases z'
        subst hb
        exact ⟨ha, by rw [List.length_map]; exact hl, vs, _, rv, ha⟩
      · have z' := (if_neg hb).symm.trans z
        cases z'
    · by_cases hb : b = a
      · exact hb
      · exact absurd (if_neg hb) z
/-- a law: F gives the written part, the function object, the promise over every base -/
theorem walk_ofA {l : PySem.W.OpenLaw} {n k : Nat} {q : Program} {loose : List Str} {XP : (Str → Option Value) → Heap → Prop} {YP : World → Heap → Prop} {d : DefRec} {CX : World → CXT} {x : Str}
    (hn : l.most = some n) (hn2 : n ≤ sizeLine) (hdf : d.params.defaults = []) (hr : Room k callerA)
    (F : ∀ (w : World) (mg : Str → Option Value) (fa : Addr) (h : Heap), YP w h → h.Ns mainGlobals mg → mg d.name = some (.ref fa) →
      ∃ (K : PySem.W.Frag) (fd : FuncData) (sp : Sp), K.In h ∧ (∀ (s : Shared) (u : Value), BindsTo s fd ⟨[u], []⟩ [(x, u)]) ∧
        (∀ (H : Hp) (a : Addr) (ns : List Int), ns.length ≤ n → Only H → SqL K H a (ns.map V.int) → sp [.ref a] H (fun v _ => v = .bl true) fun _ _ _ => False) ∧
        ∀ base : Heap, K.In base → base.Ns mainGlobals mg → FnA true l.prog w K mg base (CX w) k fa fd [x] sp)
    (hCX : ∀ (w : World) (H : Hp) (s : Shared) (e : Value) (s' : Shared), CX w [] H s (fun _ _ _ => False) e s' → False) :
    PySem.W.WalkO q loose XP YP l.row.toRowW d [] (fun f vs => PySem.call f vs) := by
  refine Att.attach_call hn hdf fun w s₀ s₁ mg mb fa o pm cd doc a vs ns G Y ho hd hcd hmg hobj hints hlen hg => ?_
  obtain ⟨K, fd, sp, KX, hb, hsp, hF⟩ := F w mg fa _ Y G.T.g hmg
  exact law_callA KX G.T.g G.T.b G.T.builtins G.T.nolimit hg hobj hints (Nat.le_trans hlen hn2) hr hF hb (fun H hO hS => hsp H a ns hlen hO hS) fun H e s' => hCX w H s₁ e s'

end DL

set_option Elab.async false
set_option linter.all false
set_option maxRecDepth 100000
set_option maxHeartbeats 4000000
namespace DL
open PySem L2
/-- what a law's deck is made of -/
def deckKV (k1 k2 k3 : String) (dl : Addr) (b n : Int) : HO := .dK [(Sum.inr (Str.ofString k1), .ref dl), (Sum.inr (Str.ofString k2), .int b), (Sum.inr (Str.ofString k3), .int n)]
def spDeck (K : PySem.W.Frag) (dob : Addr → Int → Int → HO) : Sp := fun vs H Q _ => ∃ (a : Addr) (ns : List Int), vs = [.ref a] ∧ SqL K H a (ns.map V.int) ∧ ns.length ≤ 63 ∧
  ∀ (dd dl : Addr) (l : List Int) (b : Int) (H' : Hp), dd ≠ dl → H dd = none → H dl = none → Same H H' → H' dd = some (dob dl b 0) → H' dl = some (.lst (l.map V.int)) → l.length ≤ 63 → b.natAbs < 2 ^ 40 → Q (.ref dd) H'
def spLaw (K : PySem.W.Frag) : Sp := fun vs H Q _ => ∃ (a : Addr) (ns : List Int), vs = [.ref a] ∧ SqL K H a (ns.map V.int) ∧ ns.length ≤ 63 ∧ ∀ v H', v = .bl true → Q v H'
def mkR (K : PySem.W.Frag) (cls : Nat → Addr) (flds : Nat → List Str) (dob : Addr → Int → Int → HO) (dd dl : Addr) : RP := ⟨K, fun n => match n with
  | 0 => .ref dd
  | n + 1 => if n % 2 = 0 then .ref (n / 2) else .ref (cls (n / 2)), dd, dl, cls, flds, dob dl⟩
theorem mkR_hat {K : PySem.W.Frag} {cls : Nat → Addr} {flds : Nat → List Str} {dob : Addr → Int → Int → HO} {dd dl : Addr} : ∀ n, (mkR K cls flds dob dd dl).atm n ≠ .non := fun n => by
  cases n with
  | zero => exact fun z => by cases z
  | succ n =>
    show (if n % 2 = 0 then V.ref (n / 2) else V.ref (cls (n / 2))) ≠ .non
    split <;> exact fun z => by cases z
theorem mkR_adr {K : PySem.W.Frag} {cls : Nat → Addr} {flds : Nat → List Str} {dob : Addr → Int → Int → HO} {dd dl : Addr} (a : Addr) : (mkR K cls flds dob dd dl).atm (2 * a + 1) = .ref a := by
  show (if (2 * a) % 2 = 0 then V.ref (2 * a / 2) else V.ref (cls (2 * a / 2))) = .ref a
  rw [if_pos (Nat.mul_mod_right 2 a), Nat.mul_div_cancel_left a (by decide)]
theorem mkR_cls {K : PySem.W.Frag} {cls : Nat → Addr} {flds : Nat → List Str} {dob : Addr → Int → Int → HO} {dd dl : Addr} (c : Nat) : (mkR K cls flds dob dd dl).atm (2 * c + 2) = .ref (cls c) := by
  show (if (2 * c + 1) % 2 = 0 then V.ref ((2 * c + 1) / 2) else V.ref (cls ((2 * c + 1) / 2))) = .ref (cls c)
  rw [if_neg (by omega), show (2 * c + 1) / 2 = c by omega]
/-- the slots where the deck is drawn -/
def startL (N : List Str) (i : Nat) : Rho := (List.replicate N.length none).set i (some (false, .atom 0))
section
variable {C : XCl} {Γ : Gm} {B m ng : Nat} {N : List Str} {P : Program} {w : World} {K : PySem.W.Frag} {mg : Str → Option Value} {base : Heap} {cls : Nat → Addr} {flds : Nat → List Str} {dob : Addr → Int → Int → HO}
theorem startL_rl {H : Hp} {dd dl : Addr} {l : List Int} {b : Int} {v : V} {i : Nat} (ne : dd ≠ dl) (h1 : H dd = some (dob dl b 0)) (h2 : H dl = some (.lst (l.map V.int))) (h3 : l.length ≤ 63) (h4 : b.natAbs < 2 ^ 40) (hN : 1 ≤ N.length) (hi : i < N.length) :
    Rl (mkR K cls flds dob dd dl) ⟨fun a => a = dd ∨ a = dl, H, []⟩ (startL N i) 0 ((L2.start N [v]).set i (some (.ref dd))) H := by
  have key : ∀ (j : Nat) (b : Bool) (d : D), (startL N i)[j]? = some (some (b, d)) → j = i ∧ b = false ∧ d = .atom 0 := fun j b d e => by
    unfold startL at e
    rcases set_get e with ⟨rfl, q⟩ | ⟨_, e⟩
    · cases q; exact ⟨rfl, rfl, rfl⟩
    · rw [List.getElem?_replicate] at e
      split at e <;> cases e
  have hlen : (L2.start N [v]).length = N.length := by
    unfold L2.start
    simp; omega
  refine ⟨by unfold startL; simp [hlen], fun j d e => ?_, fun j d e => ?_, fun j k d e a e1 => ?_, .refl, fun a z => ?_, ⟨.inl rfl, .inr rfl⟩, ⟨ne, l, b, h1, h2, h3, h4⟩, fun p hp => nomatch hp⟩
  · obtain ⟨rfl, _, rfl⟩ := key j false d e
    exact ⟨.ref dd, List.getElem?_set_self (by rw [hlen]; exact hi), .atom (R := mkR K cls flds dob dd dl) 0⟩
  · cases (key j true d e).2.1
  · cases (key j true d e1).2.1
  · rcases z with rfl | rfl
    · exact ⟨_, h1⟩
    · exact ⟨_, h2⟩
theorem law_fn {qual : Str} {params : Arguments} {body rest : List Stmt} {scope : Scope} {kws : List (Str × V)} {f fk : Addr} {fd fdk : FuncData} {p1 p2 p3 p4 p5 : Pos} {i k : Nat} {b : Ss} {xs xd xk : Str}
    (F : FunD K "law" qual params body scope [] kws f fd) (S : FnScope N [xs] scope) (hbody : body = .Assign [.Name xd p1] (.Call (.Name xk p2) [.Name xs p3] [] p4) p5 :: rest)
    (sy : ∀ dd dl, Sys (mkR K cls flds dob dd dl) C Γ ng K mg) (fns : ∀ dd dl f, f < m → FnD (mkR K cls flds dob dd dl) C Γ B P w K mg base m f)
    (FK : FnA true P w K mg base (L2.CX P w) k fk fdk [xs] (spDeck K dob)) (hk : k ≤ 2 * m) (hm : mg xk = some (.ref fk)) (hkp : PySem.W.keepIn K (.ref fk) = true) (hbk : Binds K fdk [xs] []) (hgl : globB scope xk = true)
    (h0 : N[0]? = some xs) (hv : visB scope xs = true) (hx1 : (xs == ("__debug__" : Str)) = false) (hx2 : (xs == ("__classdict__" : Str)) = false) (hi : N[i]? = some xd) (ht : tgtB scope (fun _ => true) xd = true)
    (hc : chkSs Γ m ng N scope (fun _ => true) b rest = true) (hB : cSs Γ b ≤ B) (law : wSs Γ noX b { nx := fun _ => False, rt := fun d => d = .bl true } (startL N i)) :
    FnA true P w K mg base (L2.CX P w) (2 * m + 1) f fd [xs] (spLaw K) := by
  subst hbody
  refine FnA.of_body F S (fun vs H Q E ⟨a, ns, e, _⟩ => by rw [e]; rfl) fun cdv A outer s H vs Q E gd hr hsp => ?_
  obtain ⟨a, ns, rfl, hS, hl, hQ⟩ := hsp
  have k0 : ∀ dd dl, CtxS (mkR K cls flds dob dd dl) C Γ B m ng (fun cls d _ H => E cls d H) N scope (fun _ => true) (cxOf (L2.CX P w) P w K mg base N qual scope f cdv A outer s H E) := fun dd dl => by
    refine ⟨⟨rfl, S.nd, rfl, rfl, rfl, hr, gd rfl, mkR_hat, (sy dd dl).sys, takes_of (E₁ := fun e' s'' => L2.CX P w outer H s E e' s'') rfl rfl rfl rfl, fns dd dl, (sy dd dl).cl, (sy dd dl).glb, (sy dd dl).bl, (sy dd dl).en, (sy dd dl).xs, fun _ _ => rfl⟩, ?_, ?_, ?_⟩
    exact passes_of (K := fun e s'' => L2.CX P w outer H s E e s'') (E₁ := fun e' s'' => L2.CX P w outer H s E e' s'') rfl
    all_goals rfl
  generalize hX : cxOf (L2.CX P w) P w K mg base N qual scope f cdv A outer s H E = X at k0
  have eS : X.env.scope = scope := by rw [← hX]; rfl
  have kk := (k0 0 0).k
  have pv : PE X (.Name xs p3) (tVar 0) := pe_var (by rw [kk.eN]; exact h0) (vis_of eS hv) hx1 hx2
  have eq : X.prog = P ∧ X.w = w ∧ X.K = K ∧ X.mg = mg ∧ X.base = base := by rw [← hX]; exact ⟨rfl, rfl, rfl, rfl, rfl⟩
  obtain ⟨rfl, rfl, rfl, rfl, rfl⟩ := eq
  obtain ⟨g1, g2⟩ := gl_of eS hgl
  have call : PE X (.Call (.Name xk p2) [.Name xs p3] [] p4) _ := pe_callA (E := fun _ _ _ _ => False) (FK.mono hk) (fun _ => kk.gd) kk.room g1 hm hkp hbk (fun σ => pas0 σ) (pa_cons pv pa_nil (star_cons rfl)) g2 (star_cons rfl) (star_any rfl)
  have st1 := ps_set (X := X) (pos' := p1) (pos := p5) (kk.eN ▸ kk.nd) (by rw [kk.eN]; exact hi) (loc_of kk ht).1 call (by rfl) (loc_of kk ht).2
  have st2 : PSs X rest (fun D σ H => ∃ dd dl, tSs (mkR X.K cls flds dob dd dl) C Γ B (fun cls d _ H => E cls d H) b D σ H) := ⟨fun pins s σ H D I ⟨dd, dl, h⟩ => (sSs (k0 dd dl) b hc).run pins s σ H D I h⟩
  refine ⟨_, pss_cons st1 st2, ?_⟩
  refine ⟨.ref a, ?_, a, ns, rfl, hS, hl, fun dd dl l bb H' ne _ _ _ e1 e2 hl2 hb2 => ?_⟩
  · show (L2.start N [.ref a])[0]? = _
    rfl
  · refine ⟨dd, dl, _, startL N i, 0, B, noX, ⟨startL_rl ne e1 e2 hl2 hb2 ?_ ?_, by omega, Nat.le_refl _, xok_none⟩, wSs_up law ⟨fun _ z => z.elim, fun d z => ?_, fun _ z => z.elim, fun _ z => z.elim⟩⟩
    · exact (List.getElem?_eq_some_iff.mp h0).1
    · exact (List.getElem?_eq_some_iff.mp hi).1
    · subst z
      intro v H'' n' _ _ _ rp
      cases rp
      exact hQ _ _ rfl
end
end DL

set_option Elab.async false
set_option linter.all false
set_option maxRecDepth 100000
set_option maxHeartbeats 4000000
namespace DL
open PySem L2
/-! ### the deck's own defs: words over ints, with types -/
/-- how a deck is laid: a dict with three keys, a list of three -/
inductive DKind where
  | dict (kl kb kc : String) | lst
def DKind.dob (k : DKind) (dl : Addr) (b n : Int) : HO := match k with
  | .dict kl kb kc => .dK [(Sum.inr (Str.ofString kl), .ref dl), (Sum.inr (Str.ofString kb), .int b), (Sum.inr (Str.ofString kc), .int n)]
  | .lst => .lst [.ref dl, .int b, .int n]
def DKind.ok : DKind → Bool
  | .dict kl kb kc => !decide (Str.ofString kl = Str.ofString kb) && (!decide (Str.ofString kl = Str.ofString kc) && !decide (Str.ofString kb = Str.ofString kc))
  | .lst => true
/-- the constant that names the deck's part w: 0 the list, 1 the figure, 2 the count -/
def DKind.at_ (k : DKind) (w : Nat) (c : Const) : Bool := match k with
  | .dict kl kb kc => match c with
    | .str x => decide (x = Str.ofString (if w = 0 then kl else if w = 1 then kb else kc))
    | _ => false
  | .lst => match c with
    | .int i => decide (i = (w : Int))
    | _ => false
def cellV (dl : Addr) (b n : Int) (w : Nat) : V := if w = 0 then .ref dl else if w = 1 then .int b else .int n
/-- a part of the deck is read -/
def isCell (k : DKind) (x : Str) (w : Nat) : Expr → Bool
  | .Subscript (.Name y _) (.Constant c _ _) _ => decide (y = x) && k.at_ w c
  | _ => false
def tCell (dd dl : Addr) (k : DKind) (w : Nat) : TE := fun σ H Q => σ[0]? = some (some (.ref dd)) ∧ ∃ b n, H dd = some (k.dob dl b n) ∧ Q (cellV dl b n w) H
theorem cell_pe {X : Cx} {k : DKind} {x : Str} {w : Nat} {a : Expr} {dd dl : Addr} (hw : w ≤ 2) (hk : k.ok = true) (hu : X.A.units + 1 < cLine) (hN : X.N[0]? = some x) (hv : Vis X.env.scope x) (hd1 : (x == ("__debug__" : Str)) = false) (hd2 : (x == ("__classdict__" : Str)) = false)
    (h : isCell k x w a = true) : PE X a (tCell dd dl k w) := by
  unfold isCell at h
  split at h
  · rename_i y p c j p2 p3
    obtain ⟨h1, h2⟩ := and2 h
    have h1 := of_decide_eq_true h1
    subst h1
    have pv : PE X (.Name y p) (tVar 0) := pe_var hN hv hd1 hd2
    cases k with
    | dict kl kb kc =>
      cases c with
      | str z =>
        have h2 := of_decide_eq_true h2
        obtain ⟨n1, n2⟩ := and2 (show (!decide (Str.ofString kl = Str.ofString kb) && (!decide (Str.ofString kl = Str.ofString kc) && !decide (Str.ofString kb = Str.ofString kc))) = true from hk)
        obtain ⟨n2, n3⟩ := and2 n2
        have n1 := of_decide_eq_false (notB n1)
        have n2 := of_decide_eq_false (notB n2)
        have n3 := of_decide_eq_false (notB n3)
        refine imE (pe_dget hu pv pe_str (fun _ _ => rfl)) fun σ H Q ⟨e0, b, n, e1, q⟩ => ?_
        refine ⟨_, e0, dd, _, rfl, .inl ⟨_, Sum.inr z, .inl e1, rfl, ?_⟩, q⟩
        subst h2
        rcases (show w = 0 ∨ w = 1 ∨ w = 2 by omega) with rfl | rfl | rfl
        · exact (valV_pos (p := (Sum.inr (Str.ofString kl), V.ref dl)) rfl).symm
        · exact ((valV_neg (p := (Sum.inr (Str.ofString kl), V.ref dl)) (fun e => n1 (Sum.inr.inj e))).trans (valV_pos (p := (Sum.inr (Str.ofString kb), V.int b)) rfl)).symm
        · exact ((valV_neg (p := (Sum.inr (Str.ofString kl), V.ref dl)) (fun e => n2 (Sum.inr.inj e))).trans ((valV_neg (p := (Sum.inr (Str.ofString kb), V.int b)) (fun e => n3 (Sum.inr.inj e))).trans (valV_pos (p := (Sum.inr (Str.ofString kc), V.int n)) rfl))).symm
      | _ => cases h2
    | lst =>
      cases c with
      | int z =>
        have h2 := of_decide_eq_true h2
        subst h2
        refine imE (pe_ix ix_list pv pe_int (fun _ _ => rfl)) fun σ H Q ⟨e0, b, n, e1, q⟩ => ?_
        refine ⟨_, e0, dd, _, _, _, rfl, rfl, SqL.of e1, ?_, q⟩
        rcases (show w = 0 ∨ w = 1 ∨ w = 2 by omega) with rfl | rfl | rfl <;> rfl
      | _ => cases h2
  · cases h
/-- the types of its values -/
inductive VT where
  | any | bits (k : Nat) | lit (i : Int) | cnt0 | cnt | many | inMany
  deriving DecidableEq
def VT.Ok (c0 : Nat) (mv : Int) : VT → Int → Prop
  | .any, _ => True
  | .bits k, i => i.natAbs < 2 ^ k
  | .lit j, i => i = j
  | .cnt0, i => i = (c0 : Int)
  | .cnt, i => i = (c0 : Int) + 1
  | .many, i => i = mv
  | .inMany, i => 0 ≤ i ∧ i < mv
def VT.b : VT → Option Nat
  | .any => none
  | .bits k => some k
  | .lit j => some (j.natAbs.log2 + 1)
  | .cnt0 => some 20000
  | .cnt => some 20001
  | .many | .inMany => some 31
theorem VT.Ok.b {c0 : Nat} {mv i : Int} {t : VT} {k : Nat} (h : t.Ok c0 mv i) (e : t.b = some k) (hc : c0 < 2 ^ 20000) (h1 : 0 < mv) (h2 : mv < 1073741824) : i.natAbs < 2 ^ k := by
  cases t with
  | any => cases e
  | bits k' => cases e; exact h
  | lit j => cases e; have h : i = j := h; rw [h]; exact Nat.lt_log2_self
  | cnt0 => cases e; have h : i = (c0 : Int) := h; have : i.natAbs = c0 := by omega
            rw [this]; exact hc
  | cnt =>
    cases e
    have h : i = (c0 : Int) + 1 := h
    have : i.natAbs = c0 + 1 := by omega
    rw [this]
    exact Nat.lt_of_le_of_lt hc (Nat.pow_lt_pow_right (by decide) (by decide))
  | many => cases e; have h : i = mv := h; omega
  | inMany => cases e; have h : 0 ≤ i ∧ i < mv := h; omega
inductive KE where
  | c (i : Int) | v (i : Nat) | cb | cc | add (a b : KE) | mul (a b : KE) | mod (a b : KE) | fdiv (a b : KE) | pow (i j : Int) | int (a : KE)
def tyAdd (s t : Option VT) : Option VT := match s, t with
  | some .cnt0, some (.lit 1) => some .cnt
  | some s, some t => match s.b, t.b with
    | some j, some k => some (.bits (max j k + 1))
    | _, _ => some .any
  | _, _ => none
def tyMul (s t : Option VT) : Option VT := match s, t with
  | some s, some t => match s.b, t.b with
    | some j, some k => if j + k < 1000000 then some (.bits (j + k)) else none
    | _, _ => none
  | _, _ => none
def tyMod (s t : Option VT) : Option VT := match s, t with
  | some _, some (.lit m) => if 0 < m then some (.bits (m.natAbs.log2 + 1)) else none
  | some _, some .many => some .inMany
  | _, _ => none
def tyDiv (s t : Option VT) : Option VT := match s, t with
  | some _, some (.lit m) => if 0 < m ∧ m < 1073741824 then some .any else none
  | some _, some .many => some .any
  | _, _ => none
def tyE (inc : Bool) (ρ : List (Option VT)) : KE → Option VT
  | .c i => some (.lit i)
  | .v i => match ρ[i]? with
    | some (some t) => some t
    | _ => none
  | .cb => some (.bits 40)
  | .cc => some (if inc then .cnt else .cnt0)
  | .add a b => tyAdd (tyE inc ρ a) (tyE inc ρ b)
  | .mul a b => tyMul (tyE inc ρ a) (tyE inc ρ b)
  | .mod a b => tyMod (tyE inc ρ a) (tyE inc ρ b)
  | .fdiv a b => tyDiv (tyE inc ρ a) (tyE inc ρ b)
  | .pow i j => if 0 ≤ j ∧ j ≤ 1000 ∧ i.natAbs < 2 ^ 64 then some .any else none
  | .int a => tyE inc ρ a
/-- the state's type: the count is told; the list is not empty; it has room -/
structure KT where
  inc : Bool
  ne : Bool
  room : Bool
  ρ : List (Option VT)
structure KRl (k : DKind) (dd dl : Addr) (c0 : Nat) (mv : Int) (H0 : Hp) (T : KT) (σ : St) (H : Hp) : Prop where
  ne : dd ≠ dl
  dk : ∃ (l : List Int) (b : Int), H dd = some (k.dob dl b ((c0 : Int) + if T.inc then 1 else 0)) ∧ H dl = some (.lst (l.map V.int)) ∧ l.length ≤ 63 ∧ b.natAbs < 2 ^ 40 ∧ (T.ne = true → l ≠ []) ∧ (T.room = true → l.length ≤ 62)
  ext : ∀ a o, a ≠ dd → a ≠ dl → H0 a = some o → H a = some o
  s0 : σ[0]? = some (some (.ref dd))
  sl : ∀ (i : Nat) (t : VT), T.ρ[i]? = some (some t) → ∃ x, σ[i]? = some (some (.int x)) ∧ t.Ok c0 mv x
  len : T.ρ.length = σ.length
  r0 : T.ρ[0]? = some none
  hc : c0 < 2 ^ 20000
  m1 : 0 < mv
  m2 : mv < 1073741824
def tKE (k : DKind) (dd dl : Addr) (e : KE) : TE := fun σ H Q => ∃ c0 mv H0 T t, KRl k dd dl c0 mv H0 T σ H ∧ tyE T.inc T.ρ e = some t ∧ ∀ i, t.Ok c0 mv i → Q (.int i) H
def chkK (k : DKind) (N : List Str) (sc : Scope) (x : Str) : KE → Expr → Bool
  | .c i, a => match a with
    | .Constant (.int j) _ _ => decide (i = j)
    | _ => false
  | .v i, a => match a with
    | .Name y _ => decide (N[i]? = some y) && (visB sc y && (!(y == ("__debug__" : Str)) && !(y == ("__classdict__" : Str))))
    | _ => false
  | .cb, a => isCell k x 1 a
  | .cc, a => isCell k x 2 a
  | .add p q, a => match a with
    | .BinOp y .Add z _ => chkK k N sc x p y && chkK k N sc x q z
    | _ => false
  | .mul p q, a => match a with
    | .BinOp y .Mult z _ => chkK k N sc x p y && chkK k N sc x q z
    | _ => false
  | .mod p q, a => match a with
    | .BinOp y .Mod z _ => chkK k N sc x p y && chkK k N sc x q z
    | _ => false
  | .fdiv p q, a => match a with
    | .BinOp y .FloorDiv z _ => chkK k N sc x p y && chkK k N sc x q z
    | _ => false
  | .pow i j, a => match a with
    | .BinOp (.Constant (.int i') _ _) .Pow (.Constant (.int j') _ _) _ => decide (i = i') && decide (j = j')
    | _ => false
  | .int p, a => match a with
    | .Call (.Name f _) [y] [] _ => decide (f = "int") && (globB sc f && (notSt y && chkK k N sc x p y))
    | _ => false
/-- the context of such a def -/
structure KCx (k : DKind) (N : List Str) (sc : Scope) (x : Str) (X : Cx) : Prop where
  ok : k.ok = true
  eN : X.N = N
  nd : N.Nodup
  esc : X.env.scope = sc
  calm : X.calm = true
  un : X.A.units + 100 < cLine
  x0 : N[0]? = some x
  xv : visB sc x = true
  x1 : (x == ("__debug__" : Str)) = false
  x2 : (x == ("__classdict__" : Str)) = false
  int_ : X.mg "int" = none
  list_ : X.mg "list" = none
section
variable {k : DKind} {N : List Str} {sc : Scope} {x : Str} {X : Cx} {dd dl : Addr}
theorem KCx.cell (K : KCx k N sc x X) {w : Nat} (hw : w ≤ 2) {a : Expr} (h : isCell k x w a = true) : PE X a (tCell dd dl k w) :=
  cell_pe hw K.ok (by have := K.un; omega) (K.eN ▸ K.x0) (vis_of K.esc K.xv) K.x1 K.x2 h
theorem kpow (n : Nat) : n < 2 ^ (n.log2 + 1) := Nat.lt_log2_self
theorem klog {i : Int} {j : Nat} (h : i.natAbs < 2 ^ j) : i.natAbs.log2 ≤ j := by
  by_cases z : i.natAbs = 0
  · rw [z]; simp
  · exact Nat.le_of_lt ((Nat.log2_lt z).mpr h)
theorem kmod {i m : Int} (h : 0 < m) : (i % m).natAbs < 2 ^ (m.natAbs.log2 + 1) := by
  have h1 := Int.emod_nonneg i (Int.ne_of_gt h)
  have h2 := Int.emod_lt_of_pos i h
  have h3 := kpow m.natAbs
  omega
theorem s_K (K : KCx k N sc x X) : ∀ (e : KE) {a : Expr}, chkK k N sc x e a = true → PE X a (tKE k dd dl e)
  | .c i, a, h => by
    simp only [chkK] at h
    split at h
    · cases of_decide_eq_true h
      refine imE pe_int fun σ H Q ⟨c0, mv, H0, T, t, r, ht, q⟩ => ?_
      simp only [tyE] at ht
      cases ht
      exact q _ rfl
    · cases h
  | .v i, a, h => by
    simp only [chkK] at h
    split at h
    · obtain ⟨h1, h⟩ := and2 h
      obtain ⟨h2, h⟩ := and2 h
      obtain ⟨h3, h4⟩ := and2 h
      refine imE (pe_var (i := i) (K.eN ▸ of_decide_eq_true h1) (vis_of K.esc h2) (notB h3) (notB h4)) fun σ H Q ⟨c0, mv, H0, T, t, r, ht, q⟩ => ?_
      simp only [tyE] at ht
      split at ht
      · rename_i t' e
        cases ht
        obtain ⟨y, e1, o⟩ := r.sl i _ e
        exact ⟨_, e1, q y o⟩
      · cases ht
    · cases h
  | .cb, a, h => by
    refine imE (K.cell (w := 1) (dd := dd) (dl := dl) (by decide) (by simpa only [chkK] using h)) fun σ H Q ⟨c0, mv, H0, T, t, r, ht, q⟩ => ?_
    simp only [tyE] at ht
    cases ht
    obtain ⟨l, b, e1, e2, e3, e4, _⟩ := r.dk
    exact ⟨r.s0, b, _, e1, q b e4⟩
  | .cc, a, h => by
    refine imE (K.cell (w := 2) (dd := dd) (dl := dl) (by decide) (by simpa only [chkK] using h)) fun σ H Q ⟨c0, mv, H0, T, t, r, ht, q⟩ => ?_
    simp only [tyE] at ht
    cases ht
    obtain ⟨l, b, e1, e2, e3, e4, _⟩ := r.dk
    refine ⟨r.s0, b, _, e1, ?_⟩
    cases hi : T.inc with
    | true => rw [hi] at q; exact q _ rfl
    | false =>
      rw [hi] at q
      refine q _ ?_
      show (c0 : Int) + 0 = c0
      omega
  | .add p q', a, h => by
    simp only [chkK] at h
    split at h
    · obtain ⟨h1, h2⟩ := and2 h
      refine imE (pe_op op_add (s_K K p h1) (s_K K q' h2)) fun σ H Q ⟨c0, mv, H0, T, t, r, ht, q⟩ => ?_
      simp only [tyE] at ht
      unfold tyAdd at ht
      split at ht
      · rename_i e1 e2
        cases ht
        refine ⟨c0, mv, H0, T, .cnt0, r, e1, fun i hi => ⟨c0, mv, H0, T, .lit 1, r, e2, fun j hj => ⟨i, j, rfl, rfl, q _ ?_⟩⟩⟩
        have hi : i = (c0 : Int) := hi
        have hj : j = 1 := hj
        show i + j = (c0 : Int) + 1
        rw [hi, hj]
      · rename_i s u _ e1 e2
        refine ⟨c0, mv, H0, T, s, r, e1, fun i hi => ⟨c0, mv, H0, T, u, r, e2, fun j hj => ⟨i, j, rfl, rfl, q _ ?_⟩⟩⟩
        split at ht
        · rename_i j' k' f1 f2
          cases ht
          have b1 := hi.b f1 r.hc r.m1 r.m2
          have b2 := hj.b f2 r.hc r.m1 r.m2
          show (i + j).natAbs < 2 ^ (max j' k' + 1)
          have c1 : 2 ^ j' ≤ 2 ^ max j' k' := Nat.pow_le_pow_right (by decide) (Nat.le_max_left _ _)
          have c2 : 2 ^ k' ≤ 2 ^ max j' k' := Nat.pow_le_pow_right (by decide) (Nat.le_max_right _ _)
          rw [Nat.pow_succ]
          omega
        · cases ht; trivial
      · cases ht
    · cases h
  | .mul p q', a, h => by
    simp only [chkK] at h
    split at h
    · obtain ⟨h1, h2⟩ := and2 h
      refine imE (pe_op op_mulW (s_K K p h1) (s_K K q' h2)) fun σ H Q ⟨c0, mv, H0, T, t, r, ht, q⟩ => ?_
      simp only [tyE] at ht
      unfold tyMul at ht
      split at ht
      · rename_i s u e1 e2
        split at ht
        · rename_i j' k' f1 f2
          split at ht
          · rename_i hz
            cases ht
            refine ⟨c0, mv, H0, T, s, r, e1, fun i hi => ⟨c0, mv, H0, T, u, r, e2, fun j hj => ?_⟩⟩
            have b1 := hi.b f1 r.hc r.m1 r.m2
            have b2 := hj.b f2 r.hc r.m1 r.m2
            refine ⟨i, j, rfl, rfl, ?_, q _ ?_⟩
            · have := klog b1
              have := klog b2
              show i.natAbs.log2 + j.natAbs.log2 < 1000000
              omega
            · show (i * j).natAbs < 2 ^ (j' + k')
              rw [Int.natAbs_mul, Nat.pow_add]
              exact Nat.mul_lt_mul'' b1 b2
          · cases ht
        · cases ht
      · cases ht
    · cases h
  | .mod p q', a, h => by
    simp only [chkK] at h
    split at h
    · obtain ⟨h1, h2⟩ := and2 h
      refine imE (pe_op op_mod (s_K K p h1) (s_K K q' h2)) fun σ H Q ⟨c0, mv, H0, T, t, r, ht, q⟩ => ?_
      simp only [tyE] at ht
      unfold tyMod at ht
      split at ht
      · rename_i s m e1 e2
        split at ht
        · rename_i hz
          cases ht
          refine ⟨c0, mv, H0, T, s, r, e1, fun i hi => ⟨c0, mv, H0, T, .lit m, r, e2, fun j hj => ?_⟩⟩
          have hj : j = m := hj
          subst hj
          exact ⟨i, j, rfl, rfl, hz, q _ (kmod hz)⟩
        · cases ht
      · rename_i s e1 e2
        cases ht
        refine ⟨c0, mv, H0, T, s, r, e1, fun i hi => ⟨c0, mv, H0, T, .many, r, e2, fun j hj => ?_⟩⟩
        have hj : j = mv := hj
        subst hj
        exact ⟨i, j, rfl, rfl, r.m1, q _ ⟨Int.emod_nonneg i (Int.ne_of_gt r.m1), Int.emod_lt_of_pos i r.m1⟩⟩
      · cases ht
    · cases h
  | .fdiv p q', a, h => by
    simp only [chkK] at h
    split at h
    · obtain ⟨h1, h2⟩ := and2 h
      refine imE (pe_op op_fdiv (s_K K p h1) (s_K K q' h2)) fun σ H Q ⟨c0, mv, H0, T, t, r, ht, q⟩ => ?_
      simp only [tyE] at ht
      unfold tyDiv at ht
      split at ht
      · rename_i s m e1 e2
        split at ht
        · rename_i hz
          cases ht
          refine ⟨c0, mv, H0, T, s, r, e1, fun i hi => ⟨c0, mv, H0, T, .lit m, r, e2, fun j hj => ?_⟩⟩
          have hj : j = m := hj
          subst hj
          exact ⟨i, j, rfl, rfl, hz, q _ trivial⟩
        · cases ht
      · rename_i s e1 e2
        cases ht
        refine ⟨c0, mv, H0, T, s, r, e1, fun i hi => ⟨c0, mv, H0, T, .many, r, e2, fun j hj => ?_⟩⟩
        have hj : j = mv := hj
        subst hj
        exact ⟨i, j, rfl, rfl, ⟨r.m1, r.m2⟩, q _ trivial⟩
      · cases ht
    · cases h
  | .pow i j, a, h => by
    simp only [chkK] at h
    split at h
    · obtain ⟨h1, h2⟩ := and2 h
      cases of_decide_eq_true h1
      cases of_decide_eq_true h2
      refine imE (pe_op op_pow pe_int pe_int) fun σ H Q ⟨c0, mv, H0, T, t, r, ht, q⟩ => ?_
      simp only [tyE] at ht
      split at ht
      · rename_i hz
        cases ht
        exact ⟨i, j, rfl, rfl, ⟨hz.1, by omega, hz.2.2⟩, q _ trivial⟩
      · cases ht
    · cases h
  | .int p, a, h => by
    simp only [chkK] at h
    split at h
    · obtain ⟨h1, h⟩ := and2 h
      obtain ⟨h2, h⟩ := and2 h
      obtain ⟨h3, h4⟩ := and2 h
      cases of_decide_eq_true h1
      refine imE (pe_callTy call_int1 (gl_of K.esc h2).1 K.int_ (by rfl) (pa_cons (s_K K p h4) pa_nil (star_cons h3)) (by decide) (by decide) (star_cons h3) (star_any rfl)) fun σ H Q ⟨c0, mv, H0, T, t, r, ht, q⟩ => ?_
      simp only [tyE] at ht
      exact ⟨c0, mv, H0, T, t, r, ht, fun i hi => .inl ⟨i, rfl, q i hi⟩⟩
    · cases h
/-! ### its statements -/
mutual
inductive KZ where
  | asg (i : Nat) (e : KE) | incr (e : KE) | par (i j : Nat) (e f : KE) | parc (j : Nat) (e f : KE) | ifl (b : KZs) | pop (i : Nat) | push (e : KE) | ifge (e f : KE) (b : KZs) | ret (e : KE)
inductive KZs where
  | nil | cons (s : KZ) (r : KZs)
end
def joinV : Option VT → Option VT → Option VT
  | some s, some t => if s = t then some s else some .any
  | _, _ => none
def joinR : List (Option VT) → List (Option VT) → List (Option VT)
  | s :: ss, t :: ts => joinV s t :: joinR ss ts
  | _, _ => []
def KT.join (T U : KT) : Option KT := if T.inc = U.inc ∧ T.ρ.length = U.ρ.length then some ⟨T.inc, T.ne && U.ne, T.room && U.room, joinR T.ρ U.ρ⟩ else none
def KT.put (T : KT) (i : Nat) (t : VT) : Option KT := if i = 0 ∨ T.ρ.length ≤ i then none else some { T with ρ := T.ρ.set i (some t) }
mutual
def tyS (T : KT) : KZ → Option (Option KT)
  | .asg i e => match tyE T.inc T.ρ e with
    | some t => (T.put i t).map some
    | none => none
  | .incr e => match tyE T.inc T.ρ e with
    | some .cnt => if T.inc = false then some (some { T with inc := true }) else none
    | _ => none
  | .par i j e f => match tyE T.inc T.ρ e, tyE T.inc T.ρ f with
    | some t, some u => match T.put i t with
      | some T1 => (T1.put j u).map some
      | none => none
    | _, _ => none
  | .parc j e f => match tyE T.inc T.ρ e, tyE T.inc T.ρ f with
    | some .cnt, some u => if T.inc = false then (KT.put { T with inc := true } j u).map some else none
    | _, _ => none
  | .ifl b => match tySs { T with ne := true } b with
    | some none => some (some T)
    | some (some U) => (KT.join T U).map some
    | none => none
  | .pop i => if T.ne = true then (KT.put { T with ne := false, room := true } i .any).map some else none
  | .push e => match tyE T.inc T.ρ e with
    | some _ => if T.room = true then some (some { T with room := false }) else none
    | none => none
  | .ifge e f b => match tyE T.inc T.ρ e, tyE T.inc T.ρ f with
    | some _, some _ => (match tySs T b with
      | some none => some (some T)
      | some (some U) => (KT.join T U).map some
      | none => none)
    | _, _ => none
  | .ret e => match tyE T.inc T.ρ e with
    | some .inMany => if T.inc = true then some none else none
    | _ => none
def tySs (T : KT) : KZs → Option (Option KT)
  | .nil => some (some T)
  | .cons s r => match tyS T s with
    | some none => some none
    | some (some U) => tySs U r
    | none => none
end
/-- weaker -/
structure KLe (T U : KT) : Prop where
  inc : T.inc = U.inc
  ne : U.ne = true → T.ne = true
  room : U.room = true → T.room = true
  len : T.ρ.length = U.ρ.length
  sl : ∀ (i : Nat) (t : VT), U.ρ[i]? = some (some t) → t = .any ∧ (∃ u, T.ρ[i]? = some (some u)) ∨ T.ρ[i]? = some (some t)
  r0 : T.ρ[0]? = some none → U.ρ[0]? = some none
theorem KRl.le {T U : KT} {c0 : Nat} {mv : Int} {H0 : Hp} {σ : St} {H : Hp} (r : KRl k dd dl c0 mv H0 T σ H) (h : KLe T U) : KRl k dd dl c0 mv H0 U σ H := by
  refine ⟨r.ne, ?_, r.ext, r.s0, fun i t e => ?_, h.len ▸ r.len, h.r0 r.r0, r.hc, r.m1, r.m2⟩
  · obtain ⟨l, b, e1, e2, e3, e4, e5, e6⟩ := r.dk
    exact ⟨l, b, h.inc ▸ e1, e2, e3, e4, fun z => e5 (h.ne z), fun z => e6 (h.room z)⟩
  · rcases h.sl i t e with ⟨rfl, u, e1⟩ | e1
    · obtain ⟨y, e2, _⟩ := r.sl i u e1
      exact ⟨y, e2, trivial⟩
    · exact r.sl i t e1
theorem joinR_len : ∀ {a b : List (Option VT)}, a.length = b.length → (joinR a b).length = a.length
  | [], [], _ => rfl
  | _ :: a, _ :: b, h => by simp [joinR, joinR_len (a := a) (b := b) (by simpa using h)]
theorem joinR_at : ∀ {a b : List (Option VT)} (i : Nat) (t : VT), (joinR a b)[i]? = some (some t) → (∃ s u, a[i]? = some (some s) ∧ b[i]? = some (some u) ∧ ((s = t ∧ u = t) ∨ t = .any))
  | [], _, _, _, h => by simp [joinR] at h
  | _ :: _, [], _, _, h => by simp [joinR] at h
  | s :: a, u :: b, 0, t, h => by
    have h : joinV s u = some t := by simpa [joinR] using h
    cases s with
    | none => simp [joinV] at h
    | some s =>
      cases u with
      | none => simp [joinV] at h
      | some u =>
        simp only [joinV] at h
        split at h
        · rename_i e
          cases h
          exact ⟨_, _, rfl, rfl, .inl ⟨rfl, e.symm⟩⟩
        · cases h
          exact ⟨_, _, rfl, rfl, .inr rfl⟩
  | _ :: a, _ :: b, i + 1, t, h => by
    have h : (joinR a b)[i]? = some (some t) := by simpa [joinR] using h
    simpa using joinR_at i t h
theorem joinR_0 {a b : List (Option VT)} (h : a.length = b.length) : (a[0]? = some none → (joinR a b)[0]? = some none) ∧ (b[0]? = some none → (joinR a b)[0]? = some none) := by
  cases a with
  | nil => cases b with
    | nil => exact ⟨id, id⟩
    | cons => cases h
  | cons s a => cases b with
    | nil => cases h
    | cons u b =>
      refine ⟨fun e => ?_, fun e => ?_⟩
      · have e : s = none := by simpa using e
        rw [e]; rfl
      · have e : u = none := by simpa using e
        rw [e]
        cases s <;> rfl
theorem join_le {T U V : KT} (h : KT.join T U = some V) : KLe T V ∧ KLe U V := by
  unfold KT.join at h
  split at h
  · rename_i hz
    cases h
    have hl := joinR_len hz.2
    refine ⟨⟨rfl, fun z => (and2 z).1, fun z => (and2 z).1, hl.symm, fun i t e => ?_, (joinR_0 hz.2).1⟩, ⟨hz.1.symm, fun z => (and2 z).2, fun z => (and2 z).2, by rw [hl, hz.2], fun i t e => ?_, (joinR_0 hz.2).2⟩⟩
    · obtain ⟨s, u, e1, e2, e3⟩ := joinR_at i t e
      rcases e3 with ⟨rfl, _⟩ | rfl
      · exact .inr e1
      · exact .inl ⟨rfl, s, e1⟩
    · obtain ⟨s, u, e1, e2, e3⟩ := joinR_at i t e
      rcases e3 with ⟨_, rfl⟩ | rfl
      · exact .inr e2
      · exact .inl ⟨rfl, u, e2⟩
  · cases h
/-- a slot is stored -/
theorem KRl.put {T U : KT} {i : Nat} {t : VT} {c0 : Nat} {mv y : Int} {H0 : Hp} {σ : St} {H : Hp} (r : KRl k dd dl c0 mv H0 T σ H) (h : T.put i t = some U) (o : t.Ok c0 mv y) : KRl k dd dl c0 mv H0 U (σ.set i (some (.int y))) H := by
  unfold KT.put at h
  split at h
  · cases h
  · rename_i hz
    cases h
    have h0 : i ≠ 0 := fun z => hz (.inl z)
    have hi : i < T.ρ.length := Nat.lt_of_not_le fun z => hz (.inr z)
    refine ⟨r.ne, r.dk, r.ext, by rw [List.getElem?_set_ne h0]; exact r.s0, fun j u e => ?_, by simpa using r.len, by show (T.ρ.set i (some t))[0]? = _; rw [List.getElem?_set_ne h0]; exact r.r0, r.hc, r.m1, r.m2⟩
    rcases set_get e with ⟨rfl, q⟩ | ⟨q, e⟩
    · cases q
      exact ⟨y, List.getElem?_set_self (by rw [← r.len]; exact hi), o⟩
    · obtain ⟨z, e1, o1⟩ := r.sl j u e
      exact ⟨z, by rw [List.getElem?_set_ne q]; exact e1, o1⟩
end
end DL

set_option Elab.async false
set_option linter.all false
set_option maxRecDepth 100000
set_option maxHeartbeats 4000000
namespace DL
open PySem L2
section
variable (k : DKind) (N : List Str) (sc : Scope) (x : Str)
def lcl2 (i : Nat) (y : Str) : Bool := decide (N[i]? = some y) && lclB sc y
mutual
def chkZ : KZ → Stmt → Bool
  | .asg i e, st => match st with
    | .Assign [.Name y _] v _ => lcl2 N sc i y && (notComp v && chkK k N sc x e v)
    | _ => false
  | .incr e, st => match st with
    | .Assign [a] v _ => isCell k x 2 a && (notComp v && chkK k N sc x e v)
    | _ => false
  | .par i j e f, st => match st with
    | .Assign [.Tuple [.Name y py, .Name z pz] _ _] (.Tuple [a, b] _ _) _ => lcl2 N sc i y && (lcl2 N sc j z && (decide (i ≠ j) && (decide (sc.kind = .function) && ((pz.line == py.line) && (noStar [a, b] && (!([a, b].all (foldedForSure 8)) && (!([a, b].all (constantsAlone 8)) &&
        (chkK k N sc x e a && chkK k N sc x f b))))))))
    | _ => false
  | .parc _ _ _, _ => false
  | .ifl b, st => match st with
    | .If (.Compare a [.NotEq] [.List [] _] _) body [] _ => isCell k x 0 a && chkZs b body
    | _ => false
  | .pop i, st => match st with
    | .Assign [.Name y _] (.Call (.Attribute a m ap) [] [] cp) _ => lcl2 N sc i y && (isCell k x 0 a && (decide (m = mN "list.pop") && (ap.endLine == cp.line)))
    | _ => false
  | .push e, st => match st with
    | .Expr (.Call (.Attribute a m ap) [b] [] cp) _ => isCell k x 0 a && (decide (m = mN "list.append") && ((ap.endLine == cp.line) && (notSt b && chkK k N sc x e b)))
    | _ => false
  | .ifge e f b, st => match st with
    | .If (.Compare y [.GtE] [z] _) body [] _ => !behindInMarks .GtE z && (chkK k N sc x e y && (chkK k N sc x f z && chkZs b body))
    | _ => false
  | .ret e, st => match st with
    | .Return (some v) _ => chkK k N sc x e v
    | _ => false
def chkZs : KZs → List Stmt → Bool
  | .nil, sts => sts.isEmpty
  | .cons s r, sts => match sts with
    | [] => false
    | st :: sts => chkZ s st && chkZs r sts
end
end
section
variable {k : DKind} {N : List Str} {sc : Scope} {x : Str} {X : Cx} {dd dl : Addr} {c0 : Nat} {mv : Int} {H0 H : Hp} {T : KT} {σ : St}
theorem KRl.alloc (r : KRl k dd dl c0 mv H0 T σ H) {p : Addr} {o : HO} (hp : H p = none) : KRl k dd dl c0 mv H0 T σ (upd H p o) := by
  obtain ⟨l, b, e1, e2, e3⟩ := r.dk
  exact ⟨r.ne, ⟨l, b, by rw [upd_ne (ne_of_none e1 hp)]; exact e1, by rw [upd_ne (ne_of_none e2 hp)]; exact e2, e3⟩, fun a u n1 n2 e => by
    have e' := r.ext a u n1 n2 e
    rw [upd_ne (ne_of_none e' hp)]; exact e', r.s0, r.sl, r.len, r.r0, r.hc, r.m1, r.m2⟩
/-- the list is another -/
theorem KRl.lst (r : KRl k dd dl c0 mv H0 T σ H) {l' : List Int} {ne' room' : Bool} (h1 : l'.length ≤ 63) (h2 : ne' = true → l' ≠ []) (h3 : room' = true → l'.length ≤ 62) : KRl k dd dl c0 mv H0 { T with ne := ne', room := room' } σ (upd H dl (.lst (l'.map V.int))) := by
  obtain ⟨l, b, e1, e2, e3, e4, _⟩ := r.dk
  exact ⟨r.ne, ⟨l', b, by rw [upd_ne r.ne]; exact e1, upd_same, h1, e4, h2, h3⟩, fun a u n1 n2 e => by rw [upd_ne n2]; exact r.ext a u n1 n2 e, r.s0, r.sl, r.len, r.r0, r.hc, r.m1, r.m2⟩
theorem KRl.count (r : KRl k dd dl c0 mv H0 T σ H) {b : Int} (hd : ∃ n, H dd = some (k.dob dl b n)) (hb : b.natAbs < 2 ^ 40) : KRl k dd dl c0 mv H0 { T with inc := true } σ (upd H dd (k.dob dl b ((c0 : Int) + 1))) := by
  obtain ⟨l, b', e1, e2, e3, e4, e5⟩ := r.dk
  exact ⟨r.ne, ⟨l, b, upd_same, by rw [upd_ne r.ne.symm]; exact e2, e3, hb, e5⟩, fun a u n1 n2 e => by rw [upd_ne n1]; exact r.ext a u n1 n2 e, r.s0, r.sl, r.len, r.r0, r.hc, r.m1, r.m2⟩
/-- where the deck's words end -/
def tZ (k : DKind) (dd dl : Addr) (ty : KT → Option (Option KT)) : TS := fun D σ H => ∃ c0 mv H0 T r, KRl k dd dl c0 mv H0 T σ H ∧ ty T = some r ∧ (∀ U σ' H', r = some U → KRl k dd dl c0 mv H0 U σ' H' → D.nx σ' H') ∧
  ∀ i U σ' H', 0 ≤ i → i < mv → U.inc = true → KRl k dd dl c0 mv H0 U σ' H' → D.rt (.int i) H'
theorem lcl_of (K : KCx k N sc x X) {i : Nat} {y : Str} (h : lcl2 N sc i y = true) : X.N[i]? = some y ∧ X.env.scope.names.lookup y = some .local := by
  obtain ⟨h1, h2⟩ := and2 h
  have h2 := of_decide_eq_true h2
  rw [K.eN, K.esc]
  exact ⟨of_decide_eq_true h1, h2⟩
theorem ints_plain : ∀ l : List Int, D.plains (l.map D.int) = true ∧ (D.pys (l.map D.int)) = l.map PyData.int
  | [] => ⟨rfl, rfl⟩
  | i :: l => by
    obtain ⟨h1, h2⟩ := ints_plain l
    refine ⟨?_, ?_⟩
    · show (true && D.plains (l.map D.int)) = true
      rw [h1]; rfl
    · show D.py (.int i) :: D.pys (l.map D.int) = _
      rw [h2]; rfl
theorem ints_rep' {R : RP} {M : Addr → Prop} : ∀ l : List Int, RepAll R M H (l.map V.int) (l.map D.int)
  | [] => .nil
  | i :: l => .cons (.int i) (ints_rep' l)
theorem ints_shaped (l : List Int) : (D.lst (l.map D.int)).shaped = true := by
  unfold D.shaped
  have h := ints_plain l
  have h1 : (D.lst (l.map D.int)).plain = true := h.1
  rw [h1, Bool.true_and]
  refine decide_eq_true ?_
  show (PyData.list (D.pys (l.map D.int))).depth ≤ 60
  rw [h.2]
  have : ∀ l : List Int, PyData.depthAll (l.map PyData.int) ≤ 1 := fun l => by
    induction l with
    | nil => simp [PyData.depthAll]
    | cons i l ih => simp only [List.map_cons, PyData.depthAll, PyData.depth]; omega
  simp only [PyData.depth]
  have := this l
  omega
theorem ints_eqv (l : List Int) : (D.lst (l.map D.int)).eqv (.lst []) = l.isEmpty := by
  unfold D.eqv
  show PyData.eqv (.list (D.pys (l.map D.int))) (.list []) = _
  rw [(ints_plain l).2]
  cases l with
  | nil => simp [PyData.eqv, PyData.eqvAll]
  | cons i l => simp [PyData.eqv, PyData.eqvAll]
abbrev R0 (K : PySem.W.Frag) (k : DKind) (dd dl : Addr) : RP := mkR K (fun _ => 0) (fun _ => []) k.dob dd dl
/-- the words behind a state -/
theorem tZ_of {D : Ends} {ty : KT → Option (Option KT)} {c0 : Nat} {mv : Int} {H0 : Hp} {T : KT} {σ : St} {H : Hp} {r : Option KT} (kr : KRl k dd dl c0 mv H0 T σ H) (e : ty T = some r)
    (hn : ∀ U σ' H', r = some U → KRl k dd dl c0 mv H0 U σ' H' → D.nx σ' H') (hr : ∀ i U σ' H', 0 ≤ i → i < mv → U.inc = true → KRl k dd dl c0 mv H0 U σ' H' → D.rt (.int i) H') : tZ k dd dl ty D σ H := ⟨c0, mv, H0, T, r, kr, e, hn, hr⟩
theorem z_asg (K : KCx k N sc x X) {i : Nat} {e : KE} {y : Str} {p pos : Pos} {v : Expr} (hi : lcl2 N sc i y = true) (hc : notComp v = true) (he : chkK k N sc x e v = true) : PS X (.Assign [.Name y p] v pos) (tZ k dd dl fun T => tyS T (.asg i e)) := by
  obtain ⟨l1, l2⟩ := lcl_of K hi
  refine imS (ps_set (K.eN ▸ K.nd) l1 (.inl l2) (s_K (dd := dd) (dl := dl) K e he) (sw_no hc) (.inr l2)) fun D σ H ⟨c0, mv, H0, T, r, kr, ht, hn, hr⟩ => ?_
  simp only [tyS] at ht
  split at ht
  · rename_i t et
    obtain ⟨U, eU, rfl⟩ := Option.map_eq_some_iff.mp ht
    exact ⟨c0, mv, H0, T, t, kr, et, fun j oj => hn U _ _ rfl (kr.put eU oj)⟩
  · cases ht
theorem z_par (K : KCx k N sc x X) {i j : Nat} {e f : KE} {y z : Str} {py pz p1 p2 pos : Pos} {k1 k2 : Nat} {a b : Expr} (hi : lcl2 N sc i y = true) (hj : lcl2 N sc j z = true) (hij : i ≠ j) (hk : sc.kind = .function) (hl : (pz.line == py.line) = true) (hs : noStar [a, b] = true)
    (hf : [a, b].all (foldedForSure 8) = false) (hc : [a, b].all (constantsAlone 8) = false) (he : chkK k N sc x e a = true) (hf2 : chkK k N sc x f b = true) :
    PS X (.Assign [.Tuple [.Name y py, .Name z pz] k1 p1] (.Tuple [a, b] k2 p2) pos) (tZ k dd dl fun T => tyS T (.par i j e f)) := by
  obtain ⟨l1, l2⟩ := lcl_of K hi
  obtain ⟨l3, l4⟩ := lcl_of K hj
  have hyz : y ≠ z := fun q => hij (nodup_ix (K.eN ▸ K.nd) l1 (q ▸ l3))
  have hs' := and2 (show (notSt a && (notSt b && true)) = true from hs)
  have hs2 := and2 hs'.2
  refine imS (ps_par K.calm (K.eN ▸ K.nd) l1 l3 hij l2 l4 (pa_cons (s_K (dd := dd) (dl := dl) K e he) (pa_cons (s_K (dd := dd) (dl := dl) K f hf2) pa_nil (star_cons hs2.1)) (star_cons hs'.1)) (sws_two (K.esc ▸ hk) l2 l4 hl hyz hs hf hc) rfl) fun D σ H ⟨c0, mv, H0, T, r, kr, ht, hn, hr⟩ => ?_
  simp only [tyS] at ht
  split at ht
  · rename_i t u e1 e2
    split at ht
    · rename_i T1 eT1
      obtain ⟨U, eU, rfl⟩ := Option.map_eq_some_iff.mp ht
      exact ⟨c0, mv, H0, T, t, kr, e1, fun m om => ⟨c0, mv, H0, T, u, kr, e2, fun m2 om2 => ⟨_, _, rfl, hn U _ _ rfl ((kr.put eT1 om).put eU om2)⟩⟩⟩
    · cases ht
  · cases ht
theorem z_ret (K : KCx k N sc x X) {e : KE} {pos : Pos} {v : Expr} (he : chkK k N sc x e v = true) : PS X (.Return (some v) pos) (tZ k dd dl fun T => tyS T (.ret e)) := imS (ps_ret (s_K (dd := dd) (dl := dl) K e he)) fun D σ H ⟨c0, mv, H0, T, r, kr, ht, hn, hr⟩ => by
  simp only [tyS] at ht
  split at ht
  · rename_i e1
    split at ht
    · rename_i hi
      exact ⟨c0, mv, H0, T, .inMany, kr, e1, fun i oi => hr i T σ H oi.1 oi.2 hi kr⟩
    · cases ht
  · cases ht
theorem ty_cell {b n : Int} {K : PySem.W.Frag} {H : Hp} {l : List Int} (h : H dl = some (.lst (l.map V.int))) : tyV K "list" (cellV dl b n 0) H := .inl ⟨rfl, _, SqL.of h⟩
theorem z_pop (K : KCx k N sc x X) {i : Nat} {y : Str} {p pos ap cp : Pos} {a : Expr} (hi : lcl2 N sc i y = true) (ha : isCell k x 0 a = true) (hp : (ap.endLine == cp.line) = true) : PS X (.Assign [.Name y p] (.Call (.Attribute a (mN "list.pop") ap) [] [] cp) pos) (tZ k dd dl fun T => tyS T (.pop i)) := by
  obtain ⟨l1, l2⟩ := lcl_of K hi
  have I := mut_inf (id := "list.pop") (by decide)
  have hb : notBase a = true := by unfold isCell at ha; split at ha <;> first | rfl | cases ha
  have pe : PE X (.Call (.Attribute a (mN "list.pop") ap) [] [] cp) _ := pe_bm0 I.pa I.slot I.ty mt_pop (K.cell (w := 0) (dd := dd) (dl := dl) (by decide) ha) (base_of hb) hp
  refine imS (ps_set (K.eN ▸ K.nd) l1 (.inl l2) pe rfl (.inr l2)) fun D σ H ⟨c0, mv, H0, T, r, kr, ht, hn, hr⟩ => ?_
  simp only [tyS] at ht
  split at ht
  · rename_i hne
    obtain ⟨U, eU, rfl⟩ := Option.map_eq_some_iff.mp ht
    obtain ⟨l, b, e1, e2, e3, e4, e5, e6⟩ := kr.dk
    have hl := e5 hne
    have h0 : 0 < l.length := List.length_pos_iff.mpr hl
    have hg : (l.map V.int)[(l.map V.int).length - 1]? = some (.int (l[l.length - 1]'(by omega))) := by
      rw [List.length_map, List.getElem?_map, List.getElem?_eq_getElem (by omega)]; rfl
    refine ⟨kr.s0, b, _, e1, ty_cell e2, dl, _, _, rfl, rfl, e2, hg, ?_⟩
    have e : (l.map V.int).dropLast = l.dropLast.map V.int := List.map_dropLast.symm
    rw [e]
    exact hn U _ _ rfl ((kr.lst (l' := l.dropLast) (ne' := false) (room' := true) (by rw [List.length_dropLast]; omega) (fun z => nomatch z) (fun _ => by rw [List.length_dropLast]; omega)).put eU trivial)
  · cases ht
theorem z_push (K : KCx k N sc x X) {e : KE} {pos ap cp : Pos} {a b : Expr} (ha : isCell k x 0 a = true) (hp : (ap.endLine == cp.line) = true) (hs : notSt b = true) (he : chkK k N sc x e b = true) : PS X (.Expr (.Call (.Attribute a (mN "list.append") ap) [b] [] cp) pos) (tZ k dd dl fun T => tyS T (.push e)) := by
  have I := mut_inf (id := "list.append") (by decide)
  have hb : notBase a = true := by unfold isCell at ha; split at ha <;> first | rfl | cases ha
  have hs1 : noStar [b] = true := by show (notSt b && true) = true; rw [hs]; rfl
  have pe : PE X (.Call (.Attribute a (mN "list.append") ap) [b] [] cp) _ := pe_bm I.pa I.slot I.ty mt_append (K.cell (w := 0) (dd := dd) (dl := dl) (by decide) ha) (pa_cons (s_K (dd := dd) (dl := dl) K e he) pa_nil (star_cons hs)) (base_of hb) (star_few hs1 (by show 1 < 30; decide)) hp (star_cons hs) (star_any rfl)
  refine imS (ps_expr pe rfl) fun D σ H ⟨c0, mv, H0, T, r, kr, ht, hn, hr⟩ => ?_
  simp only [tyS] at ht
  split at ht
  · rename_i t et
    split at ht
    · rename_i hroom
      cases ht
      obtain ⟨l, b', e1, e2, e3, e4, e5, e6⟩ := kr.dk
      refine ⟨kr.s0, b', _, e1, ty_cell e2, c0, mv, H0, T, t, kr, et, fun i oi => ⟨dl, _, _, rfl, rfl, e2, by rw [List.length_map]; have := e6 hroom; show l.length < 2 ^ 24; omega, ?_⟩⟩
      have e : l.map V.int ++ [V.int i] = (l ++ [i]).map V.int := by simp
      rw [e]
      refine hn _ _ _ rfl ((kr.lst (l' := l ++ [i]) (ne' := T.ne) (room' := false) (by rw [List.length_append]; have := e6 hroom; simp; omega) (fun _ => by simp) (fun z => nomatch z)))
    · cases ht
  · cases ht
theorem z_incr (K : KCx k N sc x X) {e : KE} {pos : Pos} {a v : Expr} (ha : isCell k x 2 a = true) (hc : notComp v = true) (he : chkK k N sc x e v = true) : PS X (.Assign [a] v pos) (tZ k dd dl fun T => tyS T (.incr e)) := by
  have hx := vis_of K.esc K.xv
  unfold isCell at ha
  split at ha
  · rename_i y p c j p2 p3
    obtain ⟨h1, h2⟩ := and2 ha
    have h1 := of_decide_eq_true h1
    subst h1
    have pv : PE X (.Name y p) (tVar 0) := pe_var (K.eN ▸ K.x0) hx K.x1 K.x2
    have fin : ∀ {D : Ends} {σ : St} {H : Hp} {c0 : Nat} {mv : Int} {H0 : Hp} {T : KT} {r : Option KT}, KRl k dd dl c0 mv H0 T σ H → tyS T (.incr e) = some r → (∀ U σ' H', r = some U → KRl k dd dl c0 mv H0 U σ' H' → D.nx σ' H') →
        tKE k dd dl e σ H fun w H1 => H1 = H ∧ ∃ l b, H dd = some (k.dob dl b c0) ∧ w = .int ((c0 : Int) + 1) ∧ D.nx σ (upd H dd (k.dob dl b ((c0 : Int) + 1))) := fun {D σ H c0 mv H0 T r} kr ht hn => by
      simp only [tyS] at ht
      split at ht
      · rename_i et
        split at ht
        · rename_i hi
          cases ht
          obtain ⟨l, b, e1, e2, e3, e4, e5⟩ := kr.dk
          rw [hi] at e1
          have e1' : H dd = some (k.dob dl b c0) := by simpa using e1
          refine ⟨c0, mv, H0, T, .cnt, kr, et, fun i oi => ⟨rfl, l, b, e1', ?_, hn _ _ _ rfl (kr.count ⟨_, e1'⟩ e4)⟩⟩
          have oi : i = (c0 : Int) + 1 := oi
          rw [oi]
        · cases ht
      · cases ht
    cases k with
    | dict kl kb kc =>
      cases c with
      | str z =>
        have h2 := of_decide_eq_true h2
        have hok := K.ok
        obtain ⟨n1, n2⟩ := and2 (show (!decide (Str.ofString kl = Str.ofString kb) && (!decide (Str.ofString kl = Str.ofString kc) && !decide (Str.ofString kb = Str.ofString kc))) = true from hok)
        obtain ⟨n2, n3⟩ := and2 n2
        have n2 := of_decide_eq_false (notB n2)
        have n3 := of_decide_eq_false (notB n3)
        refine imS (ps_dput (by have := K.un; omega) pv pe_str (s_K (dd := dd) (dl := dl) K e he) (sw_no hc)) fun D σ H ⟨c0, mv, H0, T, r, kr, ht, hn, hr⟩ => ?_
        obtain ⟨c1, m1, G1, T1, t1, kr1, et1, q⟩ := fin (D := D) kr ht hn
        refine ⟨c1, m1, G1, T1, t1, kr1, et1, fun i oi => ?_⟩
        obtain ⟨_, l, b, e1, ei, nx⟩ := q i oi
        refine ⟨_, kr.s0, dd, _, rfl, DPut.k (k := Sum.inr z) e1 (by show 3 < 2 ^ 24; decide), ?_⟩
        rw [ei]
        have hz : z = Str.ofString kc := h2
        have e3 : putK ([(Sum.inr (Str.ofString kl), V.ref dl), (Sum.inr (Str.ofString kb), V.int b), (Sum.inr (Str.ofString kc), V.int c0)] : List (Key × V)) (Sum.inr z) (V.int ((c0 : Int) + 1)) = [(Sum.inr (Str.ofString kl), V.ref dl), (Sum.inr (Str.ofString kb), V.int b), (Sum.inr (Str.ofString kc), V.int ((c0 : Int) + 1))] := by
          subst hz
          unfold putK
          rw [if_pos (by simp)]
          simp [n2, n3]
        rw [e3]
        exact nx
      | _ => cases h2
    | lst =>
      cases c with
      | int z =>
        have h2 := of_decide_eq_true h2
        have hg : PG X (.Subscript (.Name y p) (.Constant (.int z) j p2) p3) (gSub (tVar 0) (tC (.int z)) rSetL) := pg_sub pv pe_int set_list
        refine imS (ps_asg (s_K (dd := dd) (dl := dl) K e he) hg (sole.trans (sw_no hc)) rfl rfl) fun D σ H ⟨c0, mv, H0, T, r, kr, ht, hn, hr⟩ => ?_
        obtain ⟨c1, m1, G1, T1, t1, kr1, et1, q⟩ := fin (D := D) kr ht hn
        refine ⟨c1, m1, G1, T1, t1, kr1, et1, fun i oi => ?_⟩
        obtain ⟨_, l, b, e1, ei, nx⟩ := q i oi
        refine ⟨_, kr.s0, dd, _, z, 2, rfl, rfl, e1, ?_, ?_⟩
        · rw [h2]; rfl
        · rw [ei]; exact nx
      | _ => cases h2
  · cases ha
theorem tZ_nx {D : Ends} {ty : KT → Option (Option KT)} {σ : St} {H : Hp} (h : tZ k dd dl ty D σ H) {nx' : St → Hp → Prop} (hx : ∀ σ H, D.nx σ H → nx' σ H) : tZ k dd dl ty { D with nx := nx' } σ H :=
  let ⟨c0, mv, H0, T, r, kr, ht, hn, hr⟩ := h; ⟨c0, mv, H0, T, r, kr, ht, fun U σ' H' e q => hx _ _ (hn U σ' H' e q), hr⟩
/-- behind a branch -/
theorem z_branch {bz : KZs} {D : Ends} {σ : St} {H : Hp} {c0 : Nat} {mv : Int} {H0 : Hp} {T T0 : KT} {r : Option KT} (kr : KRl k dd dl c0 mv H0 T0 σ H)
    (ht : (match tySs T0 bz with
      | some none => some (some T)
      | some (some U) => (KT.join T U).map some
      | none => none) = some r) (hn : ∀ U σ' H', r = some U → KRl k dd dl c0 mv H0 U σ' H' → D.nx σ' H') (hr : ∀ i U σ' H', 0 ≤ i → i < mv → U.inc = true → KRl k dd dl c0 mv H0 U σ' H' → D.rt (.int i) H') : tZ k dd dl (fun T => tySs T bz) D σ H := by
  split at ht
  · rename_i e
    exact ⟨c0, mv, H0, T0, none, kr, e, fun U _ _ q => (nomatch q), hr⟩
  · rename_i U e
    obtain ⟨V, eV, rfl⟩ := Option.map_eq_some_iff.mp ht
    refine ⟨c0, mv, H0, T0, some U, kr, e, fun U' σ' H' q kr' => ?_, hr⟩
    cases q
    exact hn V σ' H' rfl (kr'.le (join_le eV).2)
  · cases ht
/-- past a branch that is not taken -/
theorem z_else {bz : KZs} {T T0 : KT} {r : Option KT} {c0 : Nat} {mv : Int} {H0 : Hp} {σ : St} {H : Hp} {D : Ends} (kr : KRl k dd dl c0 mv H0 T σ H)
    (ht : (match tySs T0 bz with
      | some none => some (some T)
      | some (some U) => (KT.join T U).map some
      | none => none) = some r) (hn : ∀ U σ' H', r = some U → KRl k dd dl c0 mv H0 U σ' H' → D.nx σ' H') : D.nx σ H := by
  split at ht
  · cases ht
    exact hn T σ H rfl kr
  · rename_i U e
    obtain ⟨V, eV, rfl⟩ := Option.map_eq_some_iff.mp ht
    exact hn V σ H rfl (kr.le (join_le eV).1)
  · cases ht
theorem z_ifl (K : KCx k N sc x X) {a : Expr} {lp cp pos : Pos} {body : List Stmt} {bz : KZs} (ha : isCell k x 0 a = true) (hb : PSs X body (tZ k dd dl fun T => tySs T bz)) : PS X (.If (.Compare a [.NotEq] [.List [] lp] cp) body [] pos) (tZ k dd dl fun T => tyS T (.ifl bz)) := by
  refine imS (ps_if (pt_cmpR (op_cmp (R := R0 X.K k dd dl) rfl (by have := K.un; omega) mkR_hat) (K.cell (w := 0) (dd := dd) (dl := dl) (by decide) ha) (pe_lst pa_nil) rfl) hb pss_nil) fun D σ H ⟨c0, mv, H0, T, r, kr, ht, hn, hr⟩ => ?_
  simp only [tyS] at ht
  obtain ⟨l, b, e1, e2, e3, e4, e5, e6⟩ := kr.dk
  refine ⟨kr.s0, b, _, e1, Nat.zero_le _, fun p hp => ?_⟩
  have kr2 := kr.alloc (o := .lst []) hp
  have e2' : upd H p (.lst []) dl = some (.lst (l.map V.int)) := by rw [upd_ne (ne_of_none e2 hp)]; exact e2
  refine ⟨fun _ => False, .lst (l.map DL.D.int), .lst [], .inl (.lst ⟨id, e2'⟩ (by rw [List.length_map]; show l.length ≤ 2 ^ 24; omega) (ints_rep' l)), .inl (.lst ⟨id, upd_same⟩ (Nat.zero_le _) .nil), ⟨ints_shaped l, ints_shaped []⟩, ?_⟩
  rw [ints_eqv]
  refine ⟨!l.isEmpty, rfl, ?_⟩
  cases l with
  | nil => exact z_else (bz := bz) kr2 ht hn
  | cons i l =>
    have kr3 : KRl k dd dl c0 mv H0 { T with ne := true } σ (upd H p (.lst [])) := by
      refine ⟨kr2.ne, ?_, kr2.ext, kr2.s0, kr2.sl, kr2.len, kr2.r0, kr2.hc, kr2.m1, kr2.m2⟩
      obtain ⟨l', b', f1, f2, f3, f4, f5, f6⟩ := kr2.dk
      refine ⟨l', b', f1, f2, f3, f4, fun _ z => ?_, f6⟩
      subst z
      rw [e2'] at f2
      cases f2
    exact z_branch kr3 ht hn hr
theorem z_ifge (K : KCx k N sc x X) {e f : KE} {a b : Expr} {cp pos : Pos} {body : List Stmt} {bz : KZs} (hm : behindInMarks .GtE b = false) (he : chkK k N sc x e a = true) (hf : chkK k N sc x f b = true) (hb : PSs X body (tZ k dd dl fun T => tySs T bz)) :
    PS X (.If (.Compare a [.GtE] [b] cp) body [] pos) (tZ k dd dl fun T => tyS T (.ifge e f bz)) := by
  refine imS (ps_if (pt_cmpR op_ge (s_K (dd := dd) (dl := dl) K e he) (s_K (dd := dd) (dl := dl) K f hf) hm) hb pss_nil) fun D σ H ⟨c0, mv, H0, T, r, kr, ht, hn, hr⟩ => ?_
  simp only [tyS] at ht
  split at ht
  · rename_i t u e1 e2
    refine ⟨c0, mv, H0, T, t, kr, e1, fun i oi => ⟨c0, mv, H0, T, u, kr, e2, fun j oj => ⟨i, j, rfl, rfl, _, rfl, ?_⟩⟩⟩
    by_cases q : j ≤ i
    · rw [decide_eq_true q]
      exact z_branch kr ht hn hr
    · rw [decide_eq_false q]
      exact z_else (bz := bz) kr ht hn
  · cases ht
mutual
theorem s_Z (K : KCx k N sc x X) : ∀ (s : KZ) {st : Stmt}, chkZ k N sc x s st = true → PS X st (tZ k dd dl fun T => tyS T s)
  | .asg i e, st, h => by
    simp only [chkZ] at h
    split at h
    · obtain ⟨h1, h⟩ := and2 h
      obtain ⟨h2, h3⟩ := and2 h
      exact z_asg K h1 h2 h3
    · cases h
  | .incr e, st, h => by
    simp only [chkZ] at h
    split at h
    · obtain ⟨h1, h⟩ := and2 h
      obtain ⟨h2, h3⟩ := and2 h
      exact z_incr K h1 h2 h3
    · cases h
  | .par i j e f, st, h => by
    simp only [chkZ] at h
    split at h
    · obtain ⟨h1, h⟩ := and2 h
      obtain ⟨h2, h⟩ := and2 h
      obtain ⟨h3, h⟩ := and2 h
      obtain ⟨h4, h⟩ := and2 h
      obtain ⟨h5, h⟩ := and2 h
      obtain ⟨h6, h⟩ := and2 h
      obtain ⟨h7, h⟩ := and2 h
      obtain ⟨h8, h⟩ := and2 h
      obtain ⟨h9, h10⟩ := and2 h
      exact z_par K h1 h2 (of_decide_eq_true h3) (of_decide_eq_true h4) h5 h6 (notB h7) (notB h8) h9 h10
    · cases h
  | .parc j e f, st, h => by
    simp only [chkZ] at h
    cases h
  | .ifl b, st, h => by
    simp only [chkZ] at h
    split at h
    · obtain ⟨h1, h2⟩ := and2 h
      exact z_ifl K h1 (s_Zs K b h2)
    · cases h
  | .pop i, st, h => by
    simp only [chkZ] at h
    split at h
    · obtain ⟨h1, h⟩ := and2 h
      obtain ⟨h2, h⟩ := and2 h
      obtain ⟨h3, h4⟩ := and2 h
      cases of_decide_eq_true h3
      exact z_pop K h1 h2 h4
    · cases h
  | .push e, st, h => by
    simp only [chkZ] at h
    split at h
    · obtain ⟨h1, h⟩ := and2 h
      obtain ⟨h2, h⟩ := and2 h
      obtain ⟨h3, h⟩ := and2 h
      obtain ⟨h4, h5⟩ := and2 h
      cases of_decide_eq_true h2
      exact z_push K h1 h3 h4 h5
    · cases h
  | .ifge e f b, st, h => by
    simp only [chkZ] at h
    split at h
    · obtain ⟨h1, h⟩ := and2 h
      obtain ⟨h2, h⟩ := and2 h
      obtain ⟨h3, h4⟩ := and2 h
      exact z_ifge K (notB h1) h2 h3 (s_Zs K b h4)
    · cases h
  | .ret e, st, h => by
    simp only [chkZ] at h
    split at h
    · exact z_ret K h
    · cases h
theorem s_Zs (K : KCx k N sc x X) : ∀ (s : KZs) {sts : List Stmt}, chkZs k N sc x s sts = true → PSs X sts (tZ k dd dl fun T => tySs T s)
  | .nil, sts, h => by
    simp only [chkZs] at h
    cases sts with
    | nil =>
      refine imSs pss_nil fun D σ H ⟨c0, mv, H0, T, r, kr, ht, hn, hr⟩ => ?_
      simp only [tySs] at ht
      cases ht
      exact hn T σ H rfl kr
    | cons => cases h
  | .cons s ss, sts, h => by
    cases sts with
    | nil => simp [chkZs] at h
    | cons st sts =>
      simp only [chkZs] at h
      obtain ⟨h1, h2⟩ := and2 h
      refine imSs (pss_cons (s_Z K s h1) (s_Zs K ss h2)) fun D σ H ⟨c0, mv, H0, T, r, kr, ht, hn, hr⟩ => ?_
      simp only [tySs] at ht
      split at ht
      · rename_i e
        exact ⟨c0, mv, H0, T, none, kr, e, fun U _ _ q => (nomatch q), hr⟩
      · rename_i U e
        refine ⟨c0, mv, H0, T, some U, kr, e, fun U' σ' H' q kr' => ?_, hr⟩
        cases q
        exact ⟨c0, mv, H0, U, r, kr', ht, hn, hr⟩
      · cases ht
end
end
/-! ### the draw -/
def phiDraw (ds : List D) (Q : D → Prop) (_ : Xp) : Prop := ∃ many : Int, ds = [.atom 0, .int many] ∧ 0 < many ∧ many < 1073741824 ∧ ∀ k : Int, 0 ≤ k → k < many → Q (.int k)
theorem phiDraw_of {ds : List D} {Q : D → Prop} {x : Xp} (h : phiDraw ds Q x) : ∃ many : Int, ds = [.atom 0, .int many] ∧ 0 < many ∧ many < 1073741824 ∧ ∀ k : Int, 0 ≤ k → k < many → Q (.int k) := h
theorem draw_fn {C : XCl} {B : Nat} {P : Program} {w : World} {K : PySem.W.Frag} {mg : Str → Option Value} {base : Heap} {cls : Nat → Addr} {flds : Nat → List Str} {kd : DKind} {dd dl : Addr} {xn qual : Str} {params : Arguments} {body : List Stmt} {scope : Scope} {dvs : List V} {kws : List (Str × V)}
    {f : Addr} {fd : FuncData} {N : List Str} {xd xm : Str} {b : KZs} (F : FunD K xn qual params body scope dvs kws f fd) (S : FnScope N [xd, xm] scope) (hk : kd.ok = true) (h0 : N[0]? = some xd) (hv : visB scope xd = true) (x1 : (xd == ("__debug__" : Str)) = false) (x2 : (xd == ("__classdict__" : Str)) = false)
    (bl : ∀ id, id ∈ bltNms → mg (Str.ofString id) = none) (hc : chkZs kd N scope xd b body = true) (ht : tySs ⟨false, false, false, none :: some .many :: List.replicate (N.length - 2) none⟩ b = some none) (hB : B ≤ 2 ^ 20000) :
    FnA true P w K mg base (L2.CX P w) 1 f fd [xd, xm] (spP (mkR K cls flds kd.dob dd dl) C B 2 1 phiDraw) := by
  refine FnA.of_ok (F.ok S (spP.len rfl) fun cdv A outer s H vs Q E hr hsp => ?_)
  obtain ⟨M, ds, n, xx, m0, md, ⟨ne, l, bb, e1, e2, e3, e4⟩, le, hl, rep, xo, hphi⟩ := hsp
  obtain ⟨many, rfl, m1, m2, hQ⟩ := phiDraw_of hphi
  obtain ⟨v1, v2, rfl, r1, r2⟩ := rep.two
  cases r2
  obtain rfl : v1 = .ref dd := by cases r1; rfl
  generalize hX : cxOf (L2.CX P w) P w K mg base N qual scope f cdv A outer s H E = X
  have kc : KCx kd N scope xd X := by
    subst hX
    exact ⟨hk, rfl, S.nd, rfl, rfl, by have := hr.un; show A.units + 3 + 100 < _; have h' : A.units + 3 + 16 * 0 + 200 < cLine := this; omega, h0, hv, x1, x2, bl "int" (by decide), bl "list" (by decide)⟩
  have e1z : H dd = some (kd.dob dl bb ((n : Int) + if false = true then 1 else 0)) := by
    have e : ((n : Int) + if false = true then 1 else 0) = (n : Int) := by simp
    rw [e]; exact e1
  have hN : 2 ≤ N.length := by
    have := congrArg List.length S.pre
    rw [List.length_take] at this
    simp at this; omega
  have pss := s_Zs (dd := dd) (dl := dl) kc b hc
  subst hX
  refine ⟨_, pss, n, many, H, ⟨false, false, false, none :: some .many :: List.replicate (N.length - 2) none⟩, none, ⟨ne, ⟨l, bb, e1z, e2, e3, e4, fun z => (nomatch z), fun z => (nomatch z)⟩, fun a o _ _ e => e, rfl, fun i t e => ?_, ?_, rfl, ?_, m1, m2⟩, ht, fun U _ _ q => (nomatch q), fun i U σ' H' i0 i1 hi kr => ?_⟩
  · match i, e with
    | 0, e => cases e
    | 1, e => cases e; exact ⟨many, rfl, rfl⟩
    | i + 2, e =>
      have e : (List.replicate (N.length - 2) (none : Option VT))[i]? = some (some t) := e
      rw [List.getElem?_replicate] at e
      split at e <;> cases e
  · unfold L2.start
    simp
  · have : n < B := by omega
    exact Nat.lt_of_lt_of_le this hB
  · obtain ⟨l', b', f1, f2, f3, f4, _⟩ := kr.dk
    rw [hi] at f1
    refine hQ i i0 i1 (.int i) H' (n + 1) (Nat.le_refl _) kr.ext ⟨ne, l', b', ?_, f2, f3, f4⟩ (.int i)
    have e : ((n : Int) + if true = true then 1 else 0) = ((n + 1 : Nat) : Int) := by simp
    rw [e] at f1
    exact f1
end DL

set_option Elab.async false
set_option linter.all false
set_option maxRecDepth 100000
set_option maxHeartbeats 4000000
namespace DL
open PySem L2
section
variable {X : Cx} {σ : St} {H : Hp} {Q : VK}
/-- int(b * c1 + int(i) % c2 + c3) % c4 -/
def tMix (j1 j2 : Nat) (c4 : Int) : TE := fun σ H Q => (∃ y, σ[j1]? = some (some (.int y)) ∧ y.natAbs < 2 ^ 40) ∧ (∃ y, σ[j2]? = some (some (.int y))) ∧ ∀ r : Int, 0 ≤ r → r < c4 → Q (.int r) H
theorem mix_pe {j1 j2 : Nat} {b nm : Str} {c1 c2 c3 c4 : Int} {k1 k2 k3 k4 : Nat} {p1 p2 p3 p4 p5 p6 p7 p8 p9 p10 p11 p12 p13 p14 p15 : Pos} (pb : ∀ p, PE X (.Name b p) (tVar j1)) (pn : ∀ p, PE X (.Name nm p) (tVar j2)) (gi : Gl X "int") (mi : X.mg "int" = none)
    (h1 : c1.natAbs < 2 ^ 60) (h2 : 0 < c2) (h4 : 0 < c4) :
    PE X (.BinOp (.Call (.Name "int" p1) [.BinOp (.BinOp (.BinOp (.Name b p2) .Mult (.Constant (.int c1) k1 p3) p4) .Add (.BinOp (.Call (.Name "int" p5) [.Name nm p6] [] p7) .Mod (.Constant (.int c2) k2 p8) p9) p10) .Add (.Constant (.int c3) k3 p11) p12] [] p13) .Mod (.Constant (.int c4) k4 p14) p15) (tMix j1 j2 c4) := by
  refine imE (pe_op op_mod (pe_callTy call_int1 gi mi (by rfl) (pa_cons (pe_op op_add (pe_op op_add (pe_op op_mulW (pb _) pe_int) (pe_op op_mod (pe_callTy call_int1 gi mi (by rfl) (pa_cons (pn _) pa_nil)) pe_int)) pe_int) pa_nil)) pe_int) fun σ H Q ⟨⟨y, e1, hy⟩, ⟨z, e2⟩, q⟩ => ?_
  refine ⟨_, e1, y, c1, rfl, rfl, ?_, _, e2, .inl ⟨z, rfl, z, c2, rfl, rfl, h2, _, _, rfl, rfl, _, _, rfl, rfl, .inl ⟨_, rfl, _, c4, rfl, rfl, h4, q _ (Int.emod_nonneg _ (Int.ne_of_gt h4)) (Int.emod_lt_of_pos _ h4)⟩⟩⟩
  have a1 := klog hy
  have a2 := klog h1
  show y.natAbs.log2 + c1.natAbs.log2 < 1000000
  omega
end
theorem updN {H : Hp} {a b : Addr} {o : HO} (e : upd H a o b = none) : H b = none := by
  unfold upd at e
  split at e
  · cases e
  · exact e
theorem cutV_map (l : List Int) (lo hi : Option Int) : ∃ l' : List Int, cutV (l.map V.int) lo hi = l'.map V.int ∧ l'.length ≤ l.length := by
  refine ⟨(l.drop (HT.sIx l.length 0 lo)).take (HT.sIx l.length l.length hi - HT.sIx l.length 0 lo), ?_, ?_⟩
  · unfold cutV
    rw [List.length_map, List.map_take, List.map_drop]
  · rw [List.length_take, List.length_drop]; omega
section
variable {B : Nat} {P : Program} {w : World} {K : PySem.W.Frag} {mg : Str → Option Value} {base : Heap}
/-- the deck laid as a dict of the cells turned round, the figure, the count -/
theorem deckA {qual : Str} {params : Arguments} {body : List Stmt} {scope : Scope} {f : Addr} {fd : FuncData} {N : List Str} {xs xb xn : Str} {jb jn : Nat} {c0 c1 c2 c3 c4 : Int} {k0 k1 k2 k3 k4 k5 k6 k7 k8 : Nat} {kl kb kc : String}
    {p1 p2 p3 p4 p5 p6 p7 p8 p9 p10 p11 p12 p13 p14 p15 p16 p17 p18 p19 p20 p21 p22 p23 p24 p25 p26 p27 p28 p29 p30 p31 p32 p33 p34 p35 p36 p37 p38 p39 p40 p41 p42 p43 : Pos}
    (F : FunD K "_law_deck" qual params body scope [] [] f fd) (S : FnScope N [xs] scope)
    (hbody : body = [.Assign [.Name xb p1] (.Constant (.int c0) k0 p2) p3,
      .For (.Name xn p4) (.Subscript (.Name xs p5) (.Slice none (some (.Constant (.int 63) k5 p6)) none p7) p8)
        [.Assign [.Name xb p9] (.BinOp (.Call (.Name "int" p10) [.BinOp (.BinOp (.BinOp (.Name xb p11) .Mult (.Constant (.int c1) k1 p12) p13) .Add (.BinOp (.Call (.Name "int" p14) [.Name xn p15] [] p16) .Mod (.Constant (.int c2) k2 p17) p18) p19) .Add (.Constant (.int c3) k3 p20) p21] [] p22) .Mod (.Constant (.int c4) k4 p23) p24) p25] [] p26,
      .Return (some (.Dict [some (.Constant (.str (Str.ofString kl)) 0 p27), some (.Constant (.str (Str.ofString kb)) 0 p28), some (.Constant (.str (Str.ofString kc)) 0 p29)]
        [.Subscript (.Call (.Name "list" p30) [.Subscript (.Name xs p31) (.Slice none (some (.Constant (.int 63) k6 p32)) none p33) p34] [] p35) (.Slice none none (some (.UnaryOp .USub (.Constant (.int 1) k7 p36) p37)) p38) p39,
         .Name xb p40, .Constant (.int 0) k8 p41] p42)) p43])
    (hk : (DKind.dict kl kb kc).ok = true) (hs : N[0]? = some xs) (hb : N[jb]? = some xb) (hn : N[jn]? = some xn) (jb0 : jb ≠ 0) (jn0 : jn ≠ 0) (jbn : jb ≠ jn) (vs : visB scope xs = true) (vb : visB scope xb = true) (vn : visB scope xn = true) (tb : scope.names.lookup xb = some .local) (tn : scope.names.lookup xn = some .local)
    (gi : globB scope "int" = true) (gli : globB scope "list" = true)
    (dv : (!(xs == ("__debug__" : Str)) && !(xs == ("__classdict__" : Str)) && (!(xb == ("__debug__" : Str)) && !(xb == ("__classdict__" : Str))) && (!(xn == ("__debug__" : Str)) && !(xn == ("__classdict__" : Str)))) = true)
    (hc0 : c0.natAbs < 2 ^ 40) (h1 : c1.natAbs < 2 ^ 60) (h2 : 0 < c2) (h4 : 0 < c4) (h5 : c4 < 2 ^ 40) (bl : ∀ id, id ∈ bltNms → mg (Str.ofString id) = none) :
    FnA true P w K mg base (L2.CX P w) 1 f fd [xs] (spDeck K (DKind.dict kl kb kc).dob) := by
  subst hbody
  refine FnA.of_ok (F.ok S (fun vs H Q E ⟨a, ns, e, _⟩ => by rw [e]; rfl) fun cdv A outer s H vs0 Q E hr hsp => ?_)
  obtain ⟨a, ns, rfl, hS, hl, hQ⟩ := hsp
  generalize hX : cxOf (L2.CX P w) P w K mg base N qual scope f cdv A outer s H E = X
  have eN : X.N = N := by rw [← hX]; rfl
  have eS : X.env.scope = scope := by rw [← hX]; rfl
  have eK : X.K = K := by rw [← hX]; rfl
  have eM : X.mg = mg := by rw [← hX]; rfl
  have eC : X.calm = true := by rw [← hX]; rfl
  have eP : PassesOwn (model X.prog X.w) X.A X.env X.xe := by
    subst hX
    exact passes_of (K := fun e s'' => L2.CX P w outer H s E e s'') (E₁ := fun e' s'' => L2.CX P w outer H s E e' s'') rfl
  obtain ⟨dv, dv3⟩ := and2 dv
  obtain ⟨dv1, dv2⟩ := and2 dv
  obtain ⟨d1, d2⟩ := and2 dv1
  obtain ⟨d3, d4⟩ := and2 dv2
  obtain ⟨d5, d6⟩ := and2 dv3
  have pS : ∀ p, PE X (.Name xs p) (tVar 0) := fun p => pe_var (eN ▸ hs) (vis_of eS vs) (notB d1) (notB d2)
  have pB : ∀ p, PE X (.Name xb p) (tVar jb) := fun p => pe_var (eN ▸ hb) (vis_of eS vb) (notB d3) (notB d4)
  have pN : ∀ p, PE X (.Name xn p) (tVar jn) := fun p => pe_var (eN ▸ hn) (vis_of eS vn) (notB d5) (notB d6)
  have lb : Loc X.env.scope xb := eS ▸ .inl tb
  have ln : Loc X.env.scope xn := eS ▸ .inl tn
  have lb' : X.fn xb = true ∨ X.env.scope.names.lookup xb = some .local := .inr (eS ▸ tb)
  have ln' : X.fn xn = true ∨ X.env.scope.names.lookup xn = some .local := .inr (eS ▸ tn)
  have nd : X.N.Nodup := eN ▸ S.nd
  have gI := (gl_of eS gi).1
  have gL := (gl_of eS gli).1
  have mI : X.mg "int" = none := eM ▸ bl "int" (by decide)
  have mL : X.mg "list" = none := eM ▸ bl "list" (by decide)
  have st1 := ps_set (pos' := p1) (pos := p3) nd (eN ▸ hb) lb (pe_int (X := X) (i := c0) (j := k0) (pos := p2)) (by rfl) lb'
  have st2 := ps_for (pos := p26) eP eC (pi_list (pe_slice (p2 := p7) (pos := p8) sl_list (pS p5) po_none (po_some (pe_int (i := 63) (j := k5) (pos := p6))))) (pg_name (pos := p4) nd (eN ▸ hn) ln ln')
    (pss_one (ps_set (pos' := p9) (pos := p25) nd (eN ▸ hb) lb (mix_pe (c1 := c1) (c2 := c2) (c3 := c3) (c4 := c4) (k1 := k1) (k2 := k2) (k3 := k3) (k4 := k4) (p1 := p10) (p2 := p11) (p3 := p12) (p4 := p13) (p5 := p14) (p6 := p15) (p7 := p16) (p8 := p17) (p9 := p18) (p10 := p19) (p11 := p20) (p12 := p21) (p13 := p22) (p14 := p23) (p15 := p24) pB pN gI mI h1 h2 h4) (by rfl) lb')) (by intro _; rfl)
  have st3 := ps_ret (pos := p43) (pe_disp (pos := p42) (pps_cons (pe_str (X := X) (x := Str.ofString kl) (j := 0) (pos := p27)) (pe_revL (k := k7) (p1 := p36) (p2 := p37) (p3 := p38) (pos := p39) (pe_callTy (pos := p35) (p := p30) call_list_of gL mL (by rfl) (pa_cons (pe_slice (p2 := p33) (pos := p34) sl_list (pS p31) po_none (po_some (pe_int (i := 63) (j := k6) (pos := p32)))) pa_nil)))
    (pps_cons (pe_str (x := Str.ofString kb) (j := 0) (pos := p28)) (pB p40) (pps_cons (pe_str (x := Str.ofString kc) (j := 0) (pos := p29)) (pe_int (i := 0) (j := k8) (pos := p41)) pps_nil))) rfl rfl (List.cons_ne_nil _ _) (by show 3 ≤ 15; decide))
  refine ⟨_, pss_cons st1 (pss_cons st2 (pss_one st3)), ?_⟩
  rw [eK]
  have hlen : (L2.start N [V.ref a]).length = N.length := by
    have : 1 ≤ N.length := by have := (List.getElem?_eq_some_iff.mp hs).1; omega
    unfold L2.start
    simp; omega
  have lB : jb < N.length := (List.getElem?_eq_some_iff.mp hb).1
  have lN : jn < N.length := (List.getElem?_eq_some_iff.mp hn).1
  obtain ⟨l1, el1, hl1⟩ := cutV_map ns none (some 63)
  have hz0 : ((L2.start N [V.ref a]).set jb (some (.int c0)))[0]? = some (some (.ref a)) := by
    rw [List.getElem?_set_ne jb0]; rfl
  refine ⟨_, hz0, 63, rfl, a, _, rfl, hS, fun p hp => ⟨p, rfl, ⟨_, SqL.of upd_same⟩, ?_⟩⟩
  refine for_list (fun i σ H2 => H2 = upd H p (.lst (l1.map V.int)) ∧ σ.length = N.length ∧ σ[0]? = some (some (.ref a)) ∧ ∃ y, σ[jb]? = some (some (.int y)) ∧ y.natAbs < 2 ^ 40) (xs := l1.map V.int) ⟨by rw [el1], by rw [List.length_set]; exact hlen, hz0, c0, List.getElem?_set_self (by rw [hlen]; exact lB), hc0⟩ ?_ ?_ ?_
  · rintro i σ H2 _ ⟨rfl, _⟩
    exact SqL.of upd_same
  · rintro i x σ H2 hx ⟨rfl, hln, h0, y, hy, hy2⟩
    rw [List.getElem?_map] at hx
    obtain ⟨z, hz, rfl⟩ := Option.map_eq_some_iff.mp hx
    refine ⟨⟨y, ?_, hy2⟩, ⟨z, ?_⟩, fun r r0 r1 => ⟨rfl, ?_, ?_, r, ?_, ?_⟩⟩
    · rw [List.getElem?_set_ne (Ne.symm jbn)]; exact hy
    · exact List.getElem?_set_self (by rw [hln]; exact lN)
    · rw [List.length_set, List.length_set]; exact hln
    · rw [List.getElem?_set_ne jb0, List.getElem?_set_ne jn0]; exact h0
    · exact List.getElem?_set_self (by rw [List.length_set, hln]; exact lB)
    · omega
  · rintro σ H2 ⟨rfl, hln, h0, y, hy, hy2⟩
    intro p2 hp2
    have np : p2 ≠ p := fun e => by rw [e, upd_same] at hp2; cases hp2
    have hS2 : SqL K (upd (upd H p (.lst (l1.map V.int))) p2 (.dK [])) a (ns.map V.int) := by
      refine Same.seq (fun b o e => ?_) hS
      rw [upd_ne (ne_of_none e (updN hp2)), upd_ne (ne_of_none e hp)]; exact e
    refine ⟨_, h0, 63, rfl, a, _, rfl, hS2, fun q1 hq1 => ⟨q1, _, rfl, .inl (SqL.of upd_same), fun q2 hq2 => ⟨q2, _, rfl, SqL.of upd_same, fun q3 hq3 => ⟨_, hy, ?_⟩⟩⟩⟩
    have n1 : p2 ≠ q1 := fun e => by rw [← e, upd_same] at hq1; cases hq1
    have n2 : p2 ≠ q2 := fun e => by rw [← e, upd_ne n1, upd_same] at hq2; cases hq2
    have n3 : p2 ≠ q3 := fun e => by rw [← e, upd_ne n2, upd_ne n1, upd_same] at hq3; cases hq3
    refine ⟨by rw [upd_ne n3, upd_ne n2, upd_ne n1, upd_same], [(Sum.inr (Str.ofString kl), .ref q3), (Sum.inr (Str.ofString kb), .int y), (Sum.inr (Str.ofString kc), .int 0)], rfl, by show 3 ≤ 15; decide, ?_⟩
    have fr3 : H q3 = none := updN (updN (updN (updN hq3)))
    refine hQ p2 q3 l1.reverse y _ n3 (updN hp2) fr3 (fun b o e => ?_) ?_ ?_ ?_ hy2
    · rw [upd_ne (ne_of_none e (updN hp2)), upd_ne (ne_of_none e fr3), upd_ne (ne_of_none e (updN (updN (updN hq2)))), upd_ne (ne_of_none e (updN (updN hq1))), upd_ne (ne_of_none e (updN hp2)), upd_ne (ne_of_none e hp)]
      exact e
    · rw [upd_same]
      obtain ⟨m1, m2⟩ := and2 (show (!decide (Str.ofString kl = Str.ofString kb) && (!decide (Str.ofString kl = Str.ofString kc) && !decide (Str.ofString kb = Str.ofString kc))) = true from hk)
      obtain ⟨m2, m3⟩ := and2 m2
      have m1 := of_decide_eq_false (notB m1)
      have m2 := of_decide_eq_false (notB m2)
      have m3 := of_decide_eq_false (notB m3)
      simp [mergeK, putK, DKind.dob, m1, m2, m3]
    · rw [upd_ne (Ne.symm n3), upd_same, el1, List.map_reverse]
    · rw [List.length_reverse]; omega
end
end DL

set_option Elab.async false
set_option linter.all false
set_option maxRecDepth 100000
set_option maxHeartbeats 4000000
namespace DL
open PySem L2
/-! ### the head: what the top leaves, with the modules' table -/
def sysB (K : PySem.W.Frag) : Bool := match K.lookup sysModules with
  | some o => (match o.cls with
    | .type c => c == "dict"
    | _ => false)
  | none => false
theorem sysB_ok {K : PySem.W.Frag} (h : sysB K = true) : SysOk K := by
  unfold sysB at h
  split at h
  · rename_i o e
    refine ⟨o, e, ?_⟩
    split at h
    · rename_i c e2
      rw [e2, show c = "dict" from by simpa using h]
    · cases h
  · cases h
/-- what a class of one's own must say -/
def clB (K : PySem.W.Frag) (C : Addr) : Bool := PySem.W.selfFirst K C && (decide (PySem.W.mroIn K C (.type "object") = some true) && (He.eqO (PySem.W.findIn K (.ref C) "__ne__") (some (some (.builtin "object.__ne__"))) &&
  (He.eqO (PySem.W.findIn K (.ref C) "__class__") (some (some (.builtin "object.__class__"))) && (He.eqO (PySem.W.specialIn K (.builtin "object.__class__") "__get__") (some (some (.builtin "getset_descriptor.__get__"))) &&
  (decide (PySem.W.takesIn K (.builtin "object.__class__") = some true) && (decide (PySem.W.kitOne K (.ref C) (.ref C) = some true) && clTys.all fun T => decide (PySem.W.kitOne K (.type T) (.ref C) = some false)))))))
structure ClF (K : PySem.W.Frag) (C : Addr) : Prop where
  sf : PySem.W.selfFirst K C = true
  hm : PySem.W.mroIn K C (.type "object") = some true
  ne : PySem.W.findIn K (.ref C) "__ne__" = some (some (.builtin "object.__ne__"))
  ha : PySem.W.findIn K (.ref C) "__class__" = some (some (.builtin "object.__class__"))
  hn : PySem.W.specialIn K (.builtin "object.__class__") "__get__" = some (some (.builtin "getset_descriptor.__get__"))
  htk : PySem.W.takesIn K (.builtin "object.__class__") = some true
  me : PySem.W.kitOne K (.ref C) (.ref C) = some true
  nk : ∀ T, T ∈ clTys → PySem.W.kitOne K (.type T) (.ref C) = some false
theorem clB_ok {K : PySem.W.Frag} {C : Addr} (h : clB K C = true) : ClF K C := by
  obtain ⟨h1, h⟩ := and2 h
  obtain ⟨h2, h⟩ := and2 h
  obtain ⟨h3, h⟩ := and2 h
  obtain ⟨h4, h⟩ := and2 h
  obtain ⟨h5, h⟩ := and2 h
  obtain ⟨h6, h⟩ := and2 h
  obtain ⟨h7, h8⟩ := and2 h
  exact ⟨h1, of_decide_eq_true h2, He.eqO_ok h3, He.eqO_ok h4, He.eqO_ok h5, of_decide_eq_true h6, of_decide_eq_true h7, fun T hT => of_decide_eq_true (List.all_eq_true.mp h8 T hT)⟩
/-- a property -/
def prpB (K : PySem.W.Frag) (C : Addr) (m : Str) : Bool := He.eqO (PySem.W.findIn K (.ref C) m) (some (some (.ref (He.ma K C m)))) && (He.eqO (PySem.W.specialIn K (.ref (He.ma K C m)) "__get__") (some (some (.builtin "property.__get__"))) &&
  (decide (PySem.W.takesIn K (.ref (He.ma K C m)) = some true) && (match PySem.W.recIn K (He.ma K C m) "property" with
    | some (.ref _ :: _) => true
    | _ => false)))
theorem prpB_ok {K : PySem.W.Frag} {C : Addr} {m : Str} (h : prpB K C m = true) : PropOf K C m (He.ma K C m) (He5.wf K C "property" m) := by
  obtain ⟨h1, h⟩ := and2 h
  obtain ⟨h2, h⟩ := and2 h
  obtain ⟨h3, h4⟩ := and2 h
  refine ⟨He.eqO_ok h1, He.eqO_ok h2, of_decide_eq_true h3, ?_⟩
  unfold He5.wf
  split at h4
  · rename_i f r e
    exact ⟨r, by rw [e]⟩
  · cases h4
/-- a classmethod -/
def cmB (K : PySem.W.Frag) (C : Addr) (m : Str) : Bool := He5.wrapB K C "classmethod" "classmethod.__get__" m && (PySem.W.fnIn K (He5.wf K C "classmethod" m) && (PySem.W.readsIn K C (.type "type") && He.eqO (PySem.W.specialIn K (.ref C) "__getattribute__") (some (some (.builtin "type.__getattribute__")))))
theorem cmB_ok {K : PySem.W.Frag} {C : Addr} {m : Str} (h : cmB K C m = true) : ClX.CRead K C (.type "type") ∧ ClX.CMet K C (.type "type") m (He.ma K C m) (He5.wf K C "classmethod" m) := by
  obtain ⟨h1, h⟩ := and2 h
  obtain ⟨h2, h⟩ := and2 h
  obtain ⟨h3, h4⟩ := and2 h
  exact ⟨⟨h3, He.eqO_ok h4⟩, He5.cmet_of h1 h2⟩
/-- an own class over Exception -/
def oexB (K : PySem.W.Frag) (Ca : Addr) : Bool := (match K.lookup Ca with
    | some ⟨.type "type", _, .cls cd, sl⟩ => (match cd.mro, sl.toList with
      | .ref Cb :: bm, [_, _, _, _, some (.builtin n), _] => Cb == Ca && (n == "Exception.__new__" && (cd.hasDict && (!cd.hasDel && rfE bm)))
      | _, _ => false)
    | _ => false) && (He.eqO (PySem.W.findIn K (.ref Ca) "__setattr__") (some (some (.builtin "object.__setattr__"))) && (decide (PySem.W.subIn K (.ref Ca) (.type "BaseException") = some true) &&
  (decide (PySem.W.typeIn K (.ref Ca) = some (.type "type")) && (PySem.W.keepIn K (.ref Ca) && xfB K Ca))))
theorem oexB_ok {K : PySem.W.Frag} {Ca : Addr} (h : oexB K Ca = true) : OexE K Ca ∧ XfC K Ca := by
  obtain ⟨h1, h⟩ := and2 h
  obtain ⟨h2, h⟩ := and2 h
  obtain ⟨h3, h⟩ := and2 h
  obtain ⟨h4, h⟩ := and2 h
  obtain ⟨h5, h6⟩ := and2 h
  refine ⟨⟨?_, He.eqO_ok h2, of_decide_eq_true h3, of_decide_eq_true h4, h5⟩, xfB_ok h6⟩
  split at h1
  · rename_i dd cd sl e
    split at h1
    · rename_i Cb bm k0 k1 k2 k3 n k5 em es
      obtain ⟨q1, h1⟩ := and2 h1
      obtain ⟨q2, h1⟩ := and2 h1
      obtain ⟨q3, h1⟩ := and2 h1
      obtain ⟨q4, q5⟩ := and2 h1
      have q1 := eq_of_beq q1
      have q2 := eq_of_beq q2
      subst q1 q2
      obtain ⟨z1, z2, z3, z4, z5, z6, z7, z8, z9, z10, z11⟩ := cd
      dsimp only at em q3 q4
      have q4 : z11 = false := by simpa using q4
      subst em q3 q4
      obtain ⟨l⟩ := sl
      have es : l = [k0, k1, k2, k3, some (.builtin "Exception.__new__"), k5] := es
      subst es
      exact ⟨z1, z5, z4, z2, bm, z7, z8, z9, z10, dd, k0, k1, k2, k3, k5, e, q5⟩
    · cases h1
  · cases h1
/-- a base among them, without an own __init__ -/
def xbB (K : PySem.W.Frag) (FE : Addr) : Bool := PySem.W.readsIn K FE (.type "type") && (He.eqO (PySem.W.specialIn K (.ref FE) "__getattribute__") (some (some (.builtin "type.__getattribute__"))) && (match PySem.W.findCls K (.ref FE) (.type "type") "__init__" with
  | some (.val v) => v == .builtin "Exception.__init__"
  | _ => false))
theorem xbB_ok {K : PySem.W.Frag} {FE : Addr} (h : xbB K FE = true) : ClX.CRead K FE (.type "type") ∧ PySem.W.findCls K (.ref FE) (.type "type") "__init__" = some (.val (.builtin "Exception.__init__")) := by
  obtain ⟨h1, h⟩ := and2 h
  obtain ⟨h2, h3⟩ := and2 h
  refine ⟨⟨h1, He.eqO_ok h2⟩, ?_⟩
  split at h3
  · rename_i v e
    rw [e, eq_of_beq h3]
  · cases h3
inductive Fx where
  | cl (x : Str) | prp (x m : Str) | cm (x m : Str) | xc (x : Str) | xno (x f : Str) | xm (x y : Str) (b : Bool) | xi (x : Str) | xb (x : Str)
def Fx.ok (K : PySem.W.Frag) : Fx → Bool
  | .cl x => clB K (He.ga K x)
  | .prp x m => prpB K (He.ga K x) m
  | .cm x m => cmB K (He.ga K x) m
  | .xc x => oexB K (He.ga K x)
  | .xno x f => He.eqO (PySem.W.findIn K (.ref (He.ga K x)) f) (some none)
  | .xm x y b => decide (PySem.W.exmOne K (.ref (He.ga K x)) (.ref (He.ga K y)) = some b)
  | .xi x => He.eqO (PySem.W.findIn K (.ref (He.ga K x)) "__init__") (some (some (.ref (He.fAd K (x, some "__init__"))))) && decide (PySem.W.typeIn K (.ref (He.fAd K (x, some "__init__"))) = some (.type "function"))
  | .xb x => xbB K (He.ga K x)
abbrev AlY : Type := Bool × He.AlD
def obsY (fx : List Fx) (fa : List He.Fa) (fn : List He5.DefA) (K : PySem.W.Frag) : AlY := (sysB K && fx.all fun f => f.ok K, He5.obsA fa fn K)
def valY (fn : List He5.DefA) : AlY := (true, He5.valA fn)
def SaysY (fx : List Fx) (fa : List He.Fa) (fn : List He5.DefA) (K : PySem.W.Frag) : Prop := obsY fx fa fn K = valY fn
def frY (n : Nat) (g : Addr → Option Obj) : PySem.W.Frag := He.frG g (He5.asA g n ++ [sysModules])
def obsYG (n : Nat) (fx : List Fx) (fa : List He.Fa) (fn : List He5.DefA) (g : Addr → Option Obj) : AlY := obsY fx fa fn (frY n g)
def hookY (n : Nat) (fx : List Fx) (fa : List He.Fa) (fn : List He5.DefA) : PySem.W.Hook where
  α := AlY
  obs := fun s => obsYG n fx fa fn s.heap.get?
  val := fun _ => valY fn
  says := fun _ h => ∃ K : PySem.W.Frag, K.In h ∧ SaysY fx fa fn K
  of := fun _ _ e => ⟨_, He.frG_in, e⟩
  keeps := fun _ _ _ ⟨K, hK, c⟩ k => ⟨K, PySem.W.Frag.In.keeps hK k, c⟩
theorem obsYG_eq {n : Nat} {fx : List Fx} {fa : List He.Fa} {fn : List He5.DefA} {g : Addr → Option Obj} {s : Shared} (h : ∀ a, g a = s.heap.get? a) : obsYG n fx fa fn g = (hookY n fx fa fn).obs s := by
  have e : g = s.heap.get? := funext h
  rw [e] <;> rfl
section
variable {fxs : List Fx} {fa : List He.Fa} {fn : List He5.DefA} {K : PySem.W.Frag}
theorem SaysY.d (c : SaysY fxs fa fn K) : He5.SaysA fa fn K := congrArg (fun z : AlY => z.2) c
theorem SaysY.b (c : SaysY fxs fa fn K) : (sysB K && fxs.all fun f => f.ok K) = true := congrArg (fun z : AlY => z.1) c
theorem SaysY.sys (c : SaysY fxs fa fn K) : SysOk K := sysB_ok (and2 c.b).1
theorem SaysY.fx (c : SaysY fxs fa fn K) (i : Nat) {f : Fx} (h : fxs[i]? = some f := by rfl) : f.ok K = true := List.all_eq_true.mp (and2 c.b).2 f (List.mem_of_getElem? h)
/-- a class, whole -/
theorem coOf {K : PySem.W.Frag} {kd : Addr → Int → Int → HO} {cls : Nat → Addr} {flds : Nat → List Str} {dd dl : Addr} {Γ : Gm} {mg : Str → Option Value} {c : Nat} (cl : Cls K (cls c)) (f : ClF K (cls c)) (fl : flds c = Γ.cfl c) (nd : (Γ.cfl c).Nodup) (na : ∀ nm ∈ Γ.cfl c, NoAttr K (cls c) nm) (gl : mg (Γ.cnm c) = some (.ref (cls c))) :
    COk (mkR K cls flds kd dd dl) Γ K mg c := ⟨cl, fl, nd, na, mkR_cls c, f.sf, gl, ⟨cl, f.ha, f.hn, f.htk, f.hm, f.me⟩, f.nk, f.hm, f.ne⟩
end
/-- the exceptions' classes, by their names -/
def exC (K : PySem.W.Frag) (exns : List Str) (exfs : List (List Str)) : XCl := ⟨fun c => .ref (He.ga K (exns.getD c "")), fun c => exfs.getD c [], exns.length⟩
theorem eok_of {K : PySem.W.Frag} {Γ : Gm} {mg : Str → Option Value} {exns : List Str} {exfs : List (List Str)} {c : Nat} (hm : mg (Γ.exn c) = some (.ref (He.ga K (exns.getD c "")))) (hf : Γ.exf c = exfs.getD c []) (x : XfC K (He.ga K (exns.getD c "")))
    (no : ∀ f ∈ Γ.exf c, PySem.W.findIn K (.ref (He.ga K (exns.getD c ""))) f = some none) (em : ∀ k, k < Γ.nx → PySem.W.exmOne K (.ref (He.ga K (exns.getD k ""))) (.ref (He.ga K (exns.getD c ""))) = some (Γ.exm k c)) : EOk (exC K exns exfs) Γ K mg c :=
  ⟨⟨_, rfl, hm, x, no⟩, hf.symm, em⟩
/-! ### glue -/
/-- a call with keywords, no defaults -/
theorem kb0 {K : PySem.W.Frag} {x qual : Str} {params : Arguments} {body : List Stmt} {scope : Scope} {kws : List (Str × V)} {f : Addr} {fd : FuncData} {ps : List Str} (F : FunD K x qual params body scope [] kws f fd) (n : Nat) (ks : List Str) (perm : List Nat)
    (h : ∀ (kV doc pm : Value) (an : Option Addr) (cdv ct : Value) (us ws : List Value), us.length = n → ws.length = ks.length → bindArgs (PySem.W.fnOf x qual params body scope .none kV doc pm an cdv ct) ⟨us, ks.zip ws⟩ = pure (ps.zip (perm.map fun i => (us ++ ws).getD i .none))) :
    KBn K fd ps n ks (fun us ws => perm.map fun i => (us ++ ws).getD i .none) (fun vs zs => perm.map fun i => (vs ++ zs).getD i .non) := by
  obtain ⟨oc, od, dV, kV, doc, pm, an, cdv, ct, osl, rfl, lk, hcd, hD, hK⟩ := F.ex
  rcases hD with ⟨_, rfl⟩ | ⟨e, _⟩
  · refine ⟨fun s us ws _ h1 h2 => .of_eq (h kV doc pm an cdv ct us ws h1 h2), fun {vs us zs ws} r1 r2 => ?_⟩
    have r := r1.append r2
    clear h
    induction perm with
    | nil => exact .nil
    | cons i perm ih =>
      refine .cons ?_ ih
      clear ih
      generalize vs ++ zs = as at r
      generalize us ++ ws = bs at r
      induction r generalizing i with
      | nil => exact rfl
      | cons a b ih =>
        cases i with
        | zero => exact a
        | succ i => exact ih i
  · exact absurd rfl e
section
variable {R : RP} {C : XCl} {Γ : Gm} {B m ng : Nat} {N : List Str} {P : Program} {w : World} {K : PySem.W.Frag} {mg : Str → Option Value} {base : Heap}
theorem FnD.mono {m' f : Nat} (h : FnD R C Γ B P w K mg base m f) (hm : m ≤ m') : FnD R C Γ B P w K mg base m' f := by
  unfold FnD at h ⊢
  split at h
  · obtain ⟨ad, fd, ps, h1, h2, h3, h4⟩ := h
    exact ⟨ad, fd, ps, h1, h2, h3.mono (by omega), h4⟩
  · obtain ⟨ad, fd, ps, m0, l, h⟩ := h
    exact ⟨ad, fd, ps, m0, by omega, h⟩
  · obtain ⟨ad, fd, ps, m0, l, h⟩ := h
    exact ⟨ad, fd, ps, m0, by omega, h⟩
  · obtain ⟨ad, pa, fd, ps, m0, l, h⟩ := h
    exact ⟨ad, pa, fd, ps, m0, by omega, h⟩
  · obtain ⟨ad, pa, mc, fd, ps, h1, h2, h3, h4, h5⟩ := h
    exact ⟨ad, pa, mc, fd, ps, h1, h2, h3, h4.mono (by omega), h5⟩
  · obtain ⟨ad, Ca, fd, ps, m0, l, h⟩ := h
    exact ⟨ad, Ca, fd, ps, m0, by omega, h⟩
theorem fns_succ (h : ∀ f, f < m → FnD R C Γ B P w K mg base m f) (h2 : FnD R C Γ B P w K mg base (m + 1) m) : ∀ f, f < m + 1 → FnD R C Γ B P w K mg base (m + 1) f := fun f hf => by
  by_cases e : f = m
  · rw [e]; exact h2
  · exact (h f (by omega)).mono (Nat.le_succ _)
theorem fnD_of {f : Nat} {x qual : Str} {params : Arguments} {body : List Stmt} {scope : Scope} {dvs : List V} {kws : List (Str × V)} {ad : Addr} {fd : FuncData} {ps : List Str}
    (F : FunD K x qual params body scope dvs kws ad fd) (G : FnA true P w K mg base (L2.CX P w) (2 * m + 1) ad fd ps (spP R C B (Γ.arity f) (Γ.fcost f) (Γ.phi f))) (hm : mg (Γ.fname f) = some (.ref ad)) (hp : ps.length = Γ.arity f) (hb : Binds K fd ps []) (hk : KsOk R Γ K fd ps f) (hf : Γ.fk f = .fn) : FnD R C Γ B P w K mg base (m + 1) f := by
  unfold FnD
  rw [hf]
  exact ⟨ad, fd, ps, hm, F.kp, G.mono (by omega), hp, hb, hk⟩
theorem fnIn_of {x qual : Str} {params : Arguments} {body : List Stmt} {scope : Scope} {dvs : List V} {kws : List (Str × V)} {ad : Addr} {fd : FuncData} (F : FunD K x qual params body scope dvs kws ad fd) : PySem.W.fnIn K ad = true := by
  obtain ⟨oc, od, dV, kV, doc, pm, an, cdv, ct, osl, _, lk, _⟩ := F.ex
  unfold PySem.W.fnIn
  rw [lk]
theorem fnM_of {f c : Nat} {x qual : Str} {params : Arguments} {body : List Stmt} {scope : Scope} {dvs : List V} {kws : List (Str × V)} {ad : Addr} {fd : FuncData} {ps : List Str}
    (F : FunD K x qual params body scope dvs kws ad fd) (G : FnA true P w K mg base (L2.CX P w) (2 * m + 1) ad fd ps (spP R C B (Γ.arity f) (Γ.fcost f) (Γ.phi f))) (hm : Meth K (R.cls c) (Γ.fname f) ad) (hi : PySem.W.fnIn K ad = true) (hp : ps.length = Γ.arity f) (hb : Binds K fd ps []) (hk : KsOk R Γ K fd ps f) (hf : Γ.fk f = .mth c) : FnD R C Γ B P w K mg base (m + 1) f := by
  unfold FnD
  rw [hf]
  exact ⟨ad, fd, ps, _, (by omega : (2 * m + 1) + 1 ≤ 2 * (m + 1)), hm, hi, G, hp, hb, hk⟩
theorem fnN_of {f c : Nat} {ad : Addr} {fd : FuncData} {ps : List Str}
    (G : FnA true P w K mg base (L2.CX P w) (2 * m + 1) ad fd ps (spI R C B (Γ.arity f) (Γ.fcost f) c (Γ.phi f))) (hm : mg (Γ.fname f) = some (.ref (R.cls c))) (hM : Mk K (R.cls c) ad) (hp : ps.length = Γ.arity f + 1) (hb : Binds K fd ps []) (hk : KsOkN R Γ K fd ps f) (hf : Γ.fk f = .new c) : FnD R C Γ B P w K mg base (m + 1) f := by
  unfold FnD
  rw [hf]
  exact ⟨ad, fd, ps, _, (by omega : (2 * m + 1) + 1 ≤ 2 * (m + 1)), hm, hM, G, hp, hb, hk⟩
theorem fnP_of {f c : Nat} {pa ad : Addr} {fd : FuncData} {ps : List Str}
    (G : FnA true P w K mg base (L2.CX P w) (2 * m + 1) ad fd ps (spP R C B (Γ.arity f) (Γ.fcost f) (Γ.phi f))) (hp : PropOf K (R.cls c) (Γ.fname f) pa ad) (hl : ps.length = Γ.arity f) (hb : Binds K fd ps []) (hf : Γ.fk f = .prp c) : FnD R C Γ B P w K mg base (m + 1) f := by
  unfold FnD
  rw [hf]
  exact ⟨ad, pa, fd, ps, _, (by omega : (2 * m + 1) + 1 ≤ 2 * (m + 1)), hp, G, hl, hb⟩
theorem fnX_of {f c : Nat} {Ca ad : Addr} {fd : FuncData} {ps : List Str}
    (G : FnA true P w K mg base (L2.CX P w) 1 ad fd ps (spX Ca (Γ.exf c))) (ec : C.cls c = .ref Ca) (T : OexE K Ca) (iC : PySem.W.findIn K (.ref Ca) "__init__" = some (some (.ref ad))) (tI : PySem.W.typeIn K (.ref ad) = some (.type "function")) (hl : ps.length = (Γ.exf c).length + 1) (hb : Binds K fd ps []) (hf : Γ.fk f = .xi c) : FnD R C Γ B P w K mg base (m + 1) f := by
  unfold FnD
  rw [hf]
  exact ⟨ad, Ca, fd, ps, 1, by omega, ec, T, iC, tI, G, hl, hb⟩
theorem fnC_of {f c : Nat} {pa ad : Addr} {mc : Value} {fd : FuncData} {ps : List Str}
    (G : FnA true P w K mg base (L2.CX P w) (2 * m + 1) ad fd ps (spP R C B (Γ.arity f) (Γ.fcost f) (Γ.phi f))) (hg : mg (Γ.cnm c) = some (.ref (R.cls c))) (hc : ClX.CRead K (R.cls c) mc ∧ ClX.CMet K (R.cls c) mc (Γ.fname f) pa ad) (hl : ps.length = Γ.arity f) (hb : Binds K fd ps []) (hk : KsOk R Γ K fd ps f) (hf : Γ.fk f = .cm c) : FnD R C Γ B P w K mg base (m + 1) f := by
  unfold FnD
  rw [hf]
  exact ⟨ad, pa, mc, fd, ps, hg, hc.1, hc.2, G.mono (by omega), hl, hb, hk⟩
end
end DL

set_option Elab.async false
set_option linter.all false
set_option maxRecDepth 100000
set_option maxHeartbeats 4000000
namespace DL
open PySem L2
/-! ### contracts -/
structure Ct where
  pre : List D → Prop
  post : List D → D → Prop
  exc : List D → Nat → List D → Prop := fun _ _ _ => False
def Ct.phi (c : Ct) (ds : List D) (Q : D → Prop) (x : Xp) : Prop := c.pre ds ∧ (∀ z, c.post ds z → Q z) ∧ ∀ k l, c.exc ds k l → x k l
def noCt : Ct := ⟨fun _ => False, fun _ _ => False, fun _ _ _ => False⟩
def mkGm (cts : List Ct) (names : List Str) (ars fcs : List Nat) (gnms : List Str) (gds : List D) (kss : List KS) (fks : List FK := []) (cfls : List (List Str) := []) (cnms : List Str := []) (exns : List Str := []) (exfs : List (List Str) := []) (exms : List (List Bool) := []) : Gm where
  phi f := (cts.getD f noCt).phi
  fcost f := fcs.getD f 0
  fname f := names.getD f ""
  arity f := ars.getD f 0
  gD g := gds.getD g .non
  gname g := gnms.getD g ""
  ks j := kss.getD j ⟨1000000, 0, [], [], []⟩
  fk f := fks.getD f .fn
  cfl c := cfls.getD c []
  ncl := cfls.length
  cnm c := cnms.getD c ""
  nx := exns.length
  exm k c := (exms.getD k []).getD c false
  exn c := exns.getD c ""
  exf c := exfs.getD c []
  pmono f ds Q Q' X X' h1 h2 h := ⟨h.1, fun z hz => h1 z (h.2.1 z hz), fun k l e => h2 k l (h.2.2 k l e)⟩
/-- contracts with what they are about: for some a, .. -/
structure Cp where
  phi : List D → (D → Prop) → Xp → Prop
  mono : ∀ (ds : List D) (Q Q' : D → Prop) (X X' : Xp), (∀ z, Q z → Q' z) → (∀ c l, X c l → X' c l) → phi ds Q X → phi ds Q' X'
def Ct.cp (c : Ct) : Cp := ⟨c.phi, fun _ _ _ _ _ h1 h2 h => ⟨h.1, fun z hz => h1 z (h.2.1 z hz), fun k l e => h2 k l (h.2.2 k l e)⟩⟩
def Cp.of {α : Type} (pre : α → List D → Prop) (post : α → D → Prop) : Cp := ⟨fun ds Q _ => ∃ a, pre a ds ∧ ∀ z, post a z → Q z, fun _ _ _ _ _ h1 _ ⟨a, p, q⟩ => ⟨a, p, fun z hz => h1 z (q z hz)⟩⟩
def mkGmP (cts : List Cp) (names : List Str) (ars fcs : List Nat) (gnms : List Str) (gds : List D) (kss : List KS) (fks : List FK := []) (cfls : List (List Str) := []) (cnms : List Str := []) (exns : List Str := []) (exfs : List (List Str) := []) (exms : List (List Bool) := []) : Gm where
  phi f := (cts.getD f noCt.cp).phi
  fcost f := fcs.getD f 0
  fname f := names.getD f ""
  arity f := ars.getD f 0
  gD g := gds.getD g .non
  gname g := gnms.getD g ""
  ks j := kss.getD j ⟨1000000, 0, [], [], []⟩
  fk f := fks.getD f .fn
  cfl c := cfls.getD c []
  ncl := cfls.length
  cnm c := cnms.getD c ""
  nx := exns.length
  exm k c := (exms.getD k []).getD c false
  exn c := exns.getD c ""
  exf c := exfs.getD c []
  pmono f ds Q Q' X X' h1 h2 h := (cts.getD f noCt.cp).mono ds Q Q' X X' h1 h2 h
def ctDraw : Ct := ⟨fun ds => ∃ many : Int, ds = [.atom 0, .int many] ∧ 0 < many ∧ many < 1073741824, fun ds z => ∃ many k : Int, ds = [.atom 0, .int many] ∧ z = .int k ∧ 0 ≤ k ∧ k < many, fun _ _ _ => False⟩
theorem ctDraw_phi {many : Int} {Q : D → Prop} {x : Xp} (h1 : 0 < many) (h2 : many < 1073741824) (h : ∀ k : Int, 0 ≤ k → k < many → Q (.int k)) : ctDraw.phi [.atom 0, .int many] Q x :=
  ⟨⟨many, rfl, h1, h2⟩, fun z ⟨m, k, e, ez, a, b⟩ => by cases e; rw [ez]; exact h k a b, fun _ _ z => z.elim⟩
theorem ctDraw_le {ds : List D} {Q : D → Prop} {x : Xp} (h : ctDraw.phi ds Q x) : phiDraw ds Q x := by
  obtain ⟨⟨many, e, h1, h2⟩, h, _⟩ := h
  exact ⟨many, e, h1, h2, fun k a b => h _ ⟨many, k, e, rfl, a, b⟩⟩
def ctPick : Ct := ⟨fun ds => ∃ xs : List D, ds = [.atom 0, .lst xs] ∧ xs ≠ [] ∧ xs.length < 1073741824, fun ds z => ∃ xs : List D, ds = [.atom 0, .lst xs] ∧ z ∈ xs, fun _ _ _ => False⟩
theorem ctPick_phi {xs : List D} {Q : D → Prop} {x : Xp} (h1 : xs ≠ []) (h2 : xs.length < 1073741824) (h : ∀ z ∈ xs, Q z) : ctPick.phi [.atom 0, .lst xs] Q x :=
  ⟨⟨xs, rfl, h1, h2⟩, fun z ⟨m, e, hz⟩ => by cases e; exact h z hz, fun _ _ z => z.elim⟩
theorem fact_mem {fx : List Fx} {fa : List He.Fa} {fn : List He5.DefA} {K : PySem.W.Frag} (c : SaysY fx fa fn K) {f : He.Fa} (h : f ∈ fa) : f.ok K = true := by
  obtain ⟨i, hi, e⟩ := List.mem_iff_getElem.mp h
  exact c.d.fact i (f := f) (by rw [List.getElem?_eq_getElem hi, e])
def tyDone (N : List Str) (b : KZs) : Bool := match tySs ⟨false, false, false, none :: some .many :: List.replicate (N.length - 2) none⟩ b with
  | some none => true
  | _ => false
theorem tyDone_ok {N : List Str} {b : KZs} (h : tyDone N b = true) : tySs ⟨false, false, false, none :: some .many :: List.replicate (N.length - 2) none⟩ b = some none := by
  unfold tyDone at h
  split at h
  · assumption
  · cases h
theorem spP.imp {R : RP} {C : XCl} {B ar fc : Nat} {phi phi' : List D → (D → Prop) → Xp → Prop} (h : ∀ ds Q x, phi' ds Q x → phi ds Q x) : ∀ vs H Q E, spP R C B ar fc phi' vs H Q E → spP R C B ar fc phi vs H Q E :=
  fun _ _ _ _ ⟨M, ds, n, x, a, b, c, d, e, f, g, i⟩ => ⟨M, ds, n, x, a, b, c, d, e, f, g, h _ _ _ i⟩
end DL

set_option Elab.async false
set_option linter.all false
set_option maxRecDepth 100000
set_option maxHeartbeats 4000000
/-! Helpers for plain laws: what ==, repr, in answer of data. -/
namespace DL
open PySem
theorem eqv_int (i j : Int) : (D.int i).eqv (.int j) = (i == j) := by simp [D.eqv, D.py, PyData.eqv]
theorem eqv_str (x y : Str) : (D.str x).eqv (.str y) = (x == y) := by simp [D.eqv, D.py, PyData.eqv]
theorem eqv_str_self (x : Str) : (D.str x).eqv (.str x) = true := by rw [eqv_str]; exact beq_self_eq_true x
theorem eqv_bl (x y : Bool) : (D.bl x).eqv (.bl y) = (x == y) := by simp [D.eqv, D.py, PyData.eqv]
theorem eqv_nil (xs : List D) : (D.lst xs).eqv (.lst []) = xs.isEmpty := by
  cases xs <;> simp [D.eqv, D.py, D.pys, PyData.eqv, PyData.eqvAll]
theorem sh_int (i : Int) : (D.int i).shaped = true := by simp [D.shaped, D.plain, D.py, PyData.depth]
theorem sh_bl (i : Bool) : (D.bl i).shaped = true := by simp [D.shaped, D.plain, D.py, PyData.depth]
theorem sh_str (i : Str) : (D.str i).shaped = true := by simp [D.shaped, D.plain, D.py, PyData.depth]
theorem sh_nil : (D.lst []).shaped = true := by simp [D.shaped, D.plain, D.plains, D.py, D.pys, PyData.depth, PyData.depthAll]
theorem flats_plain : ∀ {xs : List D}, xs.all D.flat = true → D.plains xs = true ∧ PyData.depthAll (D.pys xs) = 0
  | [], _ => ⟨rfl, rfl⟩
  | d :: xs, h => by
    have h := List.all_cons.symm.trans h
    obtain ⟨a, b⟩ := (Bool.and_eq_true _ _).mp h
    obtain ⟨c, e⟩ := flats_plain b
    cases d <;> first | (exact absurd (show false = true from a) (by decide)) | (refine ⟨?_, ?_⟩ <;> simp [D.plains, D.plain, c, D.pys, D.py, PyData.depthAll, PyData.depth, e]; done)
theorem sh_flats {xs : List D} (h : xs.all D.flat = true) : (D.lst xs).shaped = true := by
  obtain ⟨a, b⟩ := flats_plain h
  have : (D.lst xs).plain = true := a
  unfold D.shaped
  rw [this]
  refine decide_eq_true ?_
  show PyData.depthAll (D.pys xs) + 1 ≤ 60
  omega
/-- what repr asks of its thing -/
def Shows (d : D) : Prop := d.shows = true ∧ d.py.depth ≤ 60 ∧ d.py.showable = true ∧ d.py.shown.length ≤ sizeLine
theorem shows_str {x : Str} (h : x.length ≤ 1000) (hx : ∀ c ∈ x.cps.toList, c < 4294967296) : Shows (.str x) :=
  ⟨rfl, Nat.zero_le _, rfl, Nat.le_trans (StrLaws.reprText_len x hx) (Nat.le_trans (show 10 * x.length + 2 ≤ 10002 by omega) (by decide))⟩
theorem inS_one (c : Nat) (y : Str) : inS ⟨#[c]⟩ y = decide (c ∈ y.cps.toList) := StrLaws.found_one y c
theorem t_app (x y : Str) : (x ++ y).cps.toList = x.cps.toList ++ y.cps.toList := by
  show (x.cps ++ y.cps).toList = _
  simp
theorem t_len (x : Str) : x.cps.toList.length = x.length := by simp [Str.length]
theorem t_one (c : Nat) : (⟨#[c]⟩ : Str).cps.toList = [c] := rfl
theorem t_join : ∀ zs : List Str, (Str.join "" zs).cps.toList = (zs.map fun z => z.cps.toList).flatten
  | [] => rfl
  | [y] => by simp [Str.join]
  | y :: z :: r => by
    have ih := t_join (z :: r)
    have e : (Str.join "" (y :: z :: r)).cps.toList = y.cps.toList ++ (Str.ofString "").cps.toList ++ (Str.join "" (z :: r)).cps.toList := by
      show ((y.cps ++ (Str.ofString "").cps) ++ (Str.join "" (z :: r)).cps).toList = _
      simp
    rw [e, ih]
    have : (Str.ofString "").cps.toList = [] := rfl
    rw [this]; simp
theorem t_cut (x : Str) (lo hi : Option Int) : (L2.cutS x lo hi).cps.toList = cutD x.cps.toList lo hi := by simp [L2.cutS, cutD, Str.length]
theorem cutD_mem {α : Type} {xs : List α} {lo hi : Option Int} {d : α} (h : d ∈ cutD xs lo hi) : d ∈ xs := List.mem_of_mem_drop (List.mem_of_mem_take h)
theorem cutD_len {α : Type} (xs : List α) (lo hi : Option Int) : (cutD xs lo hi).length ≤ xs.length := by
  unfold cutD
  rw [List.length_take, List.length_drop]
  omega
theorem t_inj {x y : Str} (h : x.cps.toList = y.cps.toList) : x = y := by
  obtain ⟨⟨a⟩⟩ := x
  obtain ⟨⟨b⟩⟩ := y
  cases h; rfl
theorem atI_in {α : Type} {xs : List α} {k : Int} (h0 : 0 ≤ k) (h1 : k < xs.length) : ∃ d, L2.atI xs k = some d ∧ d ∈ xs := by
  have hk : k.toNat < xs.length := by omega
  refine ⟨xs[k.toNat], ?_, List.getElem_mem hk⟩
  unfold L2.atI L2.ixN
  rw [if_pos h0, if_pos h1]
  simp [hk]
theorem atI_nat {α : Type} {xs : List α} {k : Nat} : L2.atI xs (k : Int) = xs[k]? := by
  unfold L2.atI L2.ixN
  rw [if_pos (Int.natCast_nonneg k)]
  split
  · simp
  · rw [Option.bind_none, List.getElem?_eq_none]; omega
theorem strs_of {acc : List D} {P : Str → Prop} (h : ∀ d ∈ acc, ∃ x, d = D.str x ∧ P x) : ∃ zs, strsD acc = some zs ∧ zs.length = acc.length ∧ ∀ z ∈ zs, P z := by
  induction acc with
  | nil => exact ⟨[], rfl, rfl, fun _ hz => by simp at hz⟩
  | cons d r ih =>
    obtain ⟨zs, e, l, hz⟩ := ih fun d hd => h d (List.mem_cons_of_mem _ hd)
    obtain ⟨x, rfl, px⟩ := h d (List.mem_cons_self ..)
    refine ⟨x :: zs, ?_, by simp [l], fun z hz' => ?_⟩
    · show (strsD r).map (x :: ·) = _
      rw [e]; rfl
    · rcases List.mem_cons.mp hz' with rfl | h'
      · exact px
      · exact hz z h'
theorem bools_map {α : Type} (f : α → Bool) : ∀ l : List α, boolsD (l.map fun a => .bl (f a)) = some (l.map f)
  | [] => rfl
  | a :: l => by
    show (boolsD (l.map fun a => .bl (f a))).map (f a :: ·) = _
    rw [bools_map f l]; rfl
theorem signs_get {x : Str} {i : Nat} {d : D} (h : (signs x)[i]? = some d) : ∃ c, x.cps.toList[i]? = some c ∧ d = .str ⟨#[c]⟩ := by
  unfold signs at h
  rw [List.getElem?_map] at h
  obtain ⟨c, e, rfl⟩ := Option.map_eq_some_iff.mp h
  exact ⟨c, e, rfl⟩
theorem take_next {α : Type} {l : List α} {i : Nat} {c : α} (h : l[i]? = some c) : l.take (i + 1) = l.take i ++ [c] := by
  rw [List.take_add_one, h]; rfl
theorem useR_pr {ρ : Rho} {d : D} {k : D → Prop} : useR ρ (.pr d) k = k d := rfl
theorem useR_sl {ρ : Rho} {i : Nat} {k : D → Prop} : useR ρ (.sl i) k = (match ρ[i]? with
    | some (some (_, d)) => k d
    | _ => False) := rfl
theorem escR_pr {ρ : Rho} {d : D} {k : D → Rho → Prop} : escR ρ (.pr d) k = k d ρ := rfl
theorem escR_sl {ρ : Rho} {i : Nat} {k : D → Rho → Prop} : escR ρ (.sl i) k = (match ρ[i]? with
    | some (some (true, d)) => k d (ρ.set i (some (false, d)))
    | some (some (false, d)) => k d ρ
    | _ => False) := rfl
theorem setG_nm {i : Nat} {d : D} {ρ : Rho} {k : Rho → Prop} : setG (.nm i) d ρ k = k (ρ.set i (some (false, d))) := by rw [setG]
theorem cutD_from {α : Type} (xs : List α) (k : Nat) : cutD xs (some (k : Int)) none = xs.drop k := by
  unfold cutD
  rw [HT.sIx_nat, HT.sIx_none]
  by_cases h : k ≤ xs.length
  · rw [Nat.min_eq_left h, List.take_of_length_le]
    rw [List.length_drop]; exact Nat.le_refl _
  · rw [Nat.min_eq_right (by omega), Nat.sub_self, List.take_zero, List.drop_eq_nil_of_le (by omega)]
theorem zip_get {xs ys : List D} {i : Nat} {d : D} (h : (List.zipWith (fun p q => D.tup [p, q]) xs ys)[i]? = some d) : ∃ a b, xs[i]? = some a ∧ ys[i]? = some b ∧ d = .tup [a, b] := by
  rw [List.getElem?_zipWith] at h
  revert h
  cases e1 : xs[i]? with
  | none => intro h; cases h
  | some a =>
    cases e2 : ys[i]? with
    | none => intro h; cases h
    | some b => intro h; cases h; exact ⟨a, b, rfl, rfl, rfl⟩
end DL

set_option Elab.async false
set_option linter.all false
set_option maxRecDepth 100000
set_option maxHeartbeats 4000000
/-! The readings once more, so that they unfold step by step. -/
namespace DL
open PySem L2
def br (c : Bool) (A B : Prop) : Prop := match c with
  | true => A
  | false => B
theorem br_eq (c : Bool) (A B : Prop) : br c A B = if c = true then A else B := by cases c <;> simp [br]
theorem br_of {c : Bool} {A B : Prop} (h : c = true → A) (k : c = false → B) : br c A B := by
  cases c
  · exact k rfl
  · exact h rfl
abbrev VP := (Rho → (Rv → Rho → Prop) → Prop) × (Rho → (Bool → Rho → Prop) → Prop)
def vd (A : Rho → (Rv → Rho → Prop) → Prop) : VP := (A, fun ρ Q => A ρ fun r ρ1 => useR ρ1 r fun d => ∃ b, d.truth = some b ∧ Q b ρ1)
mutual
def vP (Γ : Gm) (x : Xr) : E → VP
  | .int i => vd fun ρ Q => Q (.pr (.int i)) ρ
  | .bl b => vd fun ρ Q => Q (.pr (.bl b)) ρ
  | .non => vd fun ρ Q => Q (.pr .non) ρ
  | .str y => vd fun ρ Q => Q (.pr (.str y)) ρ
  | .var i => vd fun ρ Q => match ρ[i]? with
    | some (some (true, _)) => Q (.sl i) ρ
    | some (some (false, d)) => Q (.pr d) ρ
    | _ => False
  | .glb g => vd fun ρ Q => Q (.pr (Γ.gD g)) ρ
  | .bin op a b => vd fun ρ Q => (vP Γ x a).1 ρ fun r ρ1 => (vP Γ x b).1 ρ1 fun s ρ2 => useR ρ2 r fun d => useR ρ2 s fun e => dBin op d e fun z => Q (.pr z) ρ2
  | .neg a => vd fun ρ Q => (vP Γ x a).1 ρ fun r ρ1 => useR ρ1 r fun d => ∃ i, d = .int i ∧ Q (.pr (.int (-i))) ρ1
  | .not a => (fun ρ Q => (vP Γ x a).1 ρ fun r ρ1 => useR ρ1 r fun d => ∃ b, d.truth = some b ∧ Q (.pr (.bl (!b))) ρ1, fun ρ Q => (vP Γ x a).2 ρ fun b ρ1 => Q (!b) ρ1)
  | .and a b => (fun ρ Q => (vP Γ x a).1 ρ fun r ρ1 => useR ρ1 r fun d => ∃ c, d.truth = some c ∧ br c ((vP Γ x b).1 ρ1 Q) (Q r ρ1), fun ρ Q => (vP Γ x a).2 ρ fun c ρ1 => br c ((vP Γ x b).2 ρ1 Q) (Q false ρ1))
  | .or a b => (fun ρ Q => (vP Γ x a).1 ρ fun r ρ1 => useR ρ1 r fun d => ∃ c, d.truth = some c ∧ br c (Q r ρ1) ((vP Γ x b).1 ρ1 Q), fun ρ Q => (vP Γ x a).2 ρ fun c ρ1 => br c (Q true ρ1) ((vP Γ x b).2 ρ1 Q))
  | .cmp op a b => (fun ρ Q => (vP Γ x a).1 ρ fun r ρ1 => (vP Γ x b).1 ρ1 fun s ρ2 => useR ρ2 r fun d => useR ρ2 s fun e => dCmp op d e fun z => Q (.pr (.bl z)) ρ2, fun ρ Q => (vP Γ x a).1 ρ fun r ρ1 => (vP Γ x b).1 ρ1 fun s ρ2 => useR ρ2 r fun d => useR ρ2 s fun e => dCmp op d e fun z => Q z ρ2)
  | .cmp2 o1 o2 a b c => (fun ρ Q => (vP Γ x a).1 ρ fun r ρ1 => (vP Γ x b).1 ρ1 fun s ρ2 => useR ρ2 r fun d => useR ρ2 s fun e => dCmp o1 d e fun z =>
      br z ((vP Γ x c).1 ρ2 fun t ρ3 => useR ρ3 s fun e => useR ρ3 t fun f => dCmp o2 e f fun y => Q (.pr (.bl y)) ρ3) (Q (.pr (.bl false)) ρ2), fun ρ Q => (vP Γ x a).1 ρ fun r ρ1 => (vP Γ x b).1 ρ1 fun s ρ2 => useR ρ2 r fun d => useR ρ2 s fun e => dCmp o1 d e fun z =>
      br z ((vP Γ x c).1 ρ2 fun t ρ3 => useR ρ3 s fun e => useR ρ3 t fun f => dCmp o2 e f fun y => Q y ρ3) (Q false ρ2))
  | .ite c a b => (fun ρ Q => (vP Γ x c).2 ρ fun z ρ1 => br z ((vP Γ x a).1 ρ1 Q) ((vP Γ x b).1 ρ1 Q), fun ρ Q => (vP Γ x c).2 ρ fun z ρ1 => br z ((vP Γ x a).2 ρ1 Q) ((vP Γ x b).2 ρ1 Q))
  | .tup es => vd fun ρ Q => vEs Γ x es ρ fun ds ρ1 => ds.length ≤ sizeLine ∧ Q (.pr (.tup ds)) ρ1
  | .lst es => vd fun ρ Q => vEs Γ x es ρ fun ds ρ1 => ds.length ≤ sizeLine ∧ Q (.pr (.lst ds)) ρ1
  | .dct0 => vd fun ρ Q => Q (.pr (.dct [] [])) ρ
  | .dct1 k v => vd fun ρ Q => (vP Γ x k).1 ρ fun r ρ1 => (vP Γ x v).1 ρ1 fun s ρ2 => escR ρ2 r fun d ρ3 => escR ρ3 s fun e ρ4 => ∃ y, d = .str y ∧ Q (.pr (.dct [.str y] [e])) ρ4
  | .ix a b => vd fun ρ Q => (vP Γ x a).1 ρ fun r ρ1 => (vP Γ x b).1 ρ1 fun s ρ2 => useR ρ2 r fun d => useR ρ2 s fun e => dIx d e fun z => Q (.pr z) ρ2
  | .slL a lo => vd fun ρ Q => (vP Γ x a).1 ρ fun r ρ1 => (vP Γ x lo).1 ρ1 fun s ρ2 => useR ρ2 r fun d => useR ρ2 s fun e => ∃ i, e = .int i ∧ dSl d (some i) none fun z => Q (.pr z) ρ2
  | .slU a hi => vd fun ρ Q => (vP Γ x a).1 ρ fun r ρ1 => (vP Γ x hi).1 ρ1 fun s ρ2 => useR ρ2 r fun d => useR ρ2 s fun e => ∃ i, e = .int i ∧ dSl d none (some i) fun z => Q (.pr z) ρ2
  | .slLU a lo hi => vd fun ρ Q => (vP Γ x a).1 ρ fun r ρ1 => (vP Γ x lo).1 ρ1 fun s ρ2 => useR ρ2 s fun e => ∃ i, e = .int i ∧ (vP Γ x hi).1 ρ2 fun t ρ3 => useR ρ3 r fun d => useR ρ3 t fun f => ∃ j, f = .int j ∧ dSl d (some i) (some j) fun z => Q (.pr z) ρ3
  | .slR a => vd fun ρ Q => (vP Γ x a).1 ρ fun r ρ1 => useR ρ1 r fun d => match d with
    | .lst xs => Q (.pr (.lst xs.reverse)) ρ1
    | .str y => Q (.pr (.str ⟨y.cps.reverse⟩)) ρ1
    | _ => False
  | .isi a T => vd fun ρ Q => (vP Γ x a).1 ρ fun r ρ1 => useR ρ1 r fun d => ∃ b, dIsi d T = some b ∧ Q (.pr (.bl b)) ρ1
  | .call f es => vd fun ρ Q => vAs Γ x es ρ fun rs ρ1 => useAll ρ1 rs fun ds => ds.length = Γ.arity f ∧ Γ.phi f ds (fun z => Q (.pr z) (frz z.flat ρ1 rs)) (xat x ρ1 rs)
  | .callk j es ks => vd fun ρ Q => vAs Γ x es ρ fun rs1 ρ1 => vAs Γ x ks ρ1 fun rs2 ρ2 => rs1.length = (Γ.ks j).np ∧ rs2.length = (Γ.ks j).ks.length ∧ useAll ρ2 (rs1 ++ rs2) fun ds => Γ.phi (Γ.ks j).f ((Γ.ks j).put ds) (fun z => Q (.pr z) (frz z.flat ρ2 (rs1 ++ rs2))) (xat x ρ2 (rs1 ++ rs2))
  | .blt id es => vd fun ρ Q => vAs Γ x es ρ fun rs ρ1 => useAll ρ1 rs fun ds => dBlt id ds fun z => Q (.pr z) ρ1
  | .mth id o es => vd fun ρ Q => (vP Γ x o).1 ρ fun r ρ1 => useR ρ1 r fun d0 => dIsi d0 (mT id) = some true ∧ vAs Γ x es ρ1 fun rs ρ2 => useR ρ2 r fun d => useAll ρ2 rs fun ds => dMth id d ds fun z => Q (.pr z) ρ2
  | .mut id i es => vd fun ρ Q => (∃ d0, ρ[i]? = some (some (true, d0)) ∧ dIsi d0 (mT id) = some true) ∧ vEs Γ x es ρ fun ds ρ1 => ∃ d, ρ1[i]? = some (some (true, d)) ∧ dMut id d ds fun d' z => Q (.pr z) (ρ1.set i (some (true, d')))
  | .lc elt tg it cond own => vd fun ρ Q => vI Γ x it ρ fun ds ρ1 => noOwn ρ1 (own.map (·.2)) = true ∧ ∃ W : Nat → List D → Prop, W 0 [] ∧
      (∀ i d acc, ds[i]? = some d → W i acc → setG tg d (wipeR ρ1 (own.map (·.2))) fun ρ2 => (vP Γ noX cond).2 ρ2 fun c ρ3 => ρ3 = ρ2 ∧
        br c (acc.length < sizeLine ∧ (vP Γ noX elt).1 ρ2 fun r ρ4 => escR ρ4 r fun z ρ5 => ρ5 = ρ2 ∧ W (i + 1) (acc ++ [z])) (W (i + 1) acc)) ∧
      ∀ acc, W ds.length acc → Q (.pr (.lst acc)) (wipeR ρ1 (own.map (·.2)))
  | .fld a c j => vd fun ρ Q => (vP Γ x a).1 ρ fun r ρ1 => useR ρ1 r fun d => ∃ fs z, d = .obj c fs ∧ fs[j]? = some z ∧ Q (.pr z) ρ1
  | .appn c f es => vd fun ρ Q => vAs Γ x es ρ fun rs ρ1 => useAll ρ1 rs fun ds => ds.length = Γ.arity f ∧ Γ.phi f ds (fun z => Q (.pr z) (frz z.flat ρ1 rs)) (xat x ρ1 rs)
  | .apps c f a b => vd fun ρ Q => (vP Γ x a).1 ρ fun r ρ1 => (vP Γ x b).1 ρ1 fun s ρ2 => useAll ρ2 [r, s] fun ds => (∃ fs y, ds = [.obj c fs, y]) ∧ 2 = Γ.arity f ∧ Γ.phi f ds (fun z => Q (.pr z) (frz z.flat ρ2 [r, s])) (xat x ρ2 [r, s])
  | .appc c f a b => vd fun ρ Q => (vP Γ x a).1 ρ fun r ρ1 => (vP Γ x b).1 ρ1 fun s ρ2 => useAll ρ2 [r, s] fun ds => ∃ fs y, ds = [y, .obj c fs] ∧ 2 = Γ.arity f ∧ Γ.phi f [.obj c fs, y] (fun z => ∃ k, z = .bl k ∧ Q (.pr (.bl k)) (frz z.flat ρ2 [r, s])) noXp
  | .appm c f o es => vd fun ρ Q => (vP Γ x o).1 ρ fun r ρ1 => useR ρ1 r fun d0 => (∃ fs, d0 = .obj c fs) ∧ vAs Γ x es ρ1 fun rs ρ2 => useAll ρ2 (r :: rs) fun ds => ds.length = Γ.arity f ∧ Γ.phi f ds (fun z => Q (.pr z) (frz z.flat ρ2 (r :: rs))) (xat x ρ2 (r :: rs))
  | .appk c j o ks => vd fun ρ Q => (vP Γ x o).1 ρ fun r ρ1 => useR ρ1 r fun d0 => (∃ fs, d0 = .obj c fs) ∧ vAs Γ x ks ρ1 fun rs ρ2 => 1 = (Γ.ks j).np ∧ rs.length = (Γ.ks j).ks.length ∧ useAll ρ2 (r :: rs) fun ds => Γ.phi (Γ.ks j).f ((Γ.ks j).put ds) (fun z => Q (.pr z) (frz z.flat ρ2 (r :: rs))) (xat x ρ2 (r :: rs))
  | .propm c f a => vd fun ρ Q => (vP Γ x a).1 ρ fun r ρ1 => useAll ρ1 [r] fun ds => (∃ fs, ds = [.obj c fs]) ∧ 1 = Γ.arity f ∧ Γ.phi f ds (fun z => Q (.pr z) (frz z.flat ρ1 [r])) noXp
  | .cm c f es => vd fun ρ Q => vAs Γ x es ρ fun rs ρ1 => useAll ρ1 rs fun ds => ds.length + 1 = Γ.arity f ∧ Γ.phi f (.atom (2 * c + 2) :: ds) (fun z => Q (.pr z) (frz z.flat ρ1 rs)) (xat x ρ1 rs)
  | .cmk c j ks => vd fun ρ Q => vAs Γ x ks ρ fun rs ρ1 => 1 = (Γ.ks j).np ∧ rs.length = (Γ.ks j).ks.length ∧ useAll ρ1 rs fun ds => Γ.phi (Γ.ks j).f ((Γ.ks j).put (.atom (2 * c + 2) :: ds)) (fun z => Q (.pr z) (frz z.flat ρ1 rs)) (xat x ρ1 rs)
  | .appv i c f es => vd fun ρ Q => ρ[i]? = some (some (false, .atom (2 * c + 2))) ∧ vAs Γ x es ρ fun rs ρ1 => useAll ρ1 rs fun ds => ds.length = Γ.arity f ∧ Γ.phi f ds (fun z => Q (.pr z) (frz z.flat ρ1 rs)) (xat x ρ1 rs)
  | .appb _ c f a b => vd fun ρ Q => (vP Γ x a).1 ρ fun r ρ1 => (vP Γ x b).1 ρ1 fun s ρ2 => useAll ρ2 [r, s] fun ds => (∃ fs gs, ds = [.obj c fs, .obj c gs]) ∧ 2 = Γ.arity f ∧ Γ.phi f ds (fun z => Q (.pr z) (frz z.flat ρ2 [r, s])) (xat x ρ2 [r, s])
  | .isc c a => vd fun ρ Q => (vP Γ x a).1 ρ fun r ρ1 => useR ρ1 r fun d => ∃ b, dIsc c d = some b ∧ Q (.pr (.bl b)) ρ1
  | .fstr es => vd fun ρ Q => vF Γ x es Str.empty ρ fun y ρ1 => Q (.pr (.str y)) ρ1
  | .ownd e => vd fun ρ Q => (vP Γ x e).1 ρ fun r ρ1 => ∃ xs, r = .pr (.lst xs) ∧ Q (.pr (.lst xs)) ρ1
  | .lenm c f a => vd fun ρ Q => (vP Γ x a).1 ρ fun r ρ1 => useAll ρ1 [r] fun ds => (∃ fs, ds = [.obj c fs]) ∧ 1 = Γ.arity f ∧ Γ.phi f ds (fun z => ∃ i, z = .int i ∧ (0 ≤ i ∧ i < 2 ^ 63) ∧ Q (.pr (.int i)) (frz z.flat ρ1 [r])) noXp
  | .appe c f a b => vd fun ρ Q => (vP Γ x a).1 ρ fun r ρ1 => (vP Γ x b).1 ρ1 fun s ρ2 => useAll ρ2 [r, s] fun ds => (∃ fs y, ds = [.obj c fs, y] ∧ dIsc c y = some false) ∧ 2 = Γ.arity f ∧ Γ.phi f ds (fun z => ∃ k, z = .bl k ∧ Q (.pr (.bl k)) (frz z.flat ρ2 [r, s])) noXp
  | .newk c j ks => vd fun ρ Q => vAs Γ x ks ρ fun rs ρ1 => 0 = (Γ.ks j).np ∧ rs.length = (Γ.ks j).ks.length ∧ useAll ρ1 rs fun ds => Γ.phi (Γ.ks j).f ((Γ.ks j).put ds) (fun z => Q (.pr z) (frz z.flat ρ1 rs)) (xat x ρ1 rs)
  | .lstR a => vd fun ρ Q => (vP Γ x a).1 ρ fun r ρ1 => useR ρ1 r fun d => ∃ j, d = .int j ∧ (0 ≤ j ∧ j ≤ 16777216) ∧ Q (.pr (.lst ((List.range j.toNat).map fun i : Nat => D.int (i : Int)))) ρ1
  | .appq ne c f a b => vd fun ρ Q => (vP Γ x a).1 ρ fun r ρ1 => (vP Γ x b).1 ρ1 fun s ρ2 => useAll ρ2 [r, s] fun ds => (∃ fs gs, ds = [.obj c fs, .obj c gs]) ∧ 2 = Γ.arity f ∧ Γ.phi f ds (fun z => ∃ k, z = .bl k ∧ Q (.pr (.bl (xorB ne k))) (frz z.flat ρ2 [r, s])) noXp
  | .lc2 elt tg it cond tg1 it1 cond1 own ow1 => vd fun ρ Q => vI Γ x it ρ fun ds ρ1 => noOwn ρ1 (own.map (·.2)) = true ∧ ∃ W : Nat → List D → Prop, W 0 [] ∧
      (∀ i d acc, ds[i]? = some d → W i acc → setG tg d (wipeR ρ1 (own.map (·.2))) fun ρ2 => (vP Γ noX cond).2 ρ2 fun c ρ3 => ρ3 = ρ2 ∧
        br c (vI Γ noX it1 ρ2 fun es ρ4 => ρ4 = ρ2 ∧ ∃ V : Nat → List D → Prop, V 0 acc ∧
          (∀ j e bcc, es[j]? = some e → V j bcc → setG tg1 e (wipeR ρ2 ow1) fun ρ5 => (vP Γ noX cond1).2 ρ5 fun c1 ρ6 => ρ6 = ρ5 ∧
            if c1 = true then bcc.length < sizeLine ∧ (vP Γ noX elt).1 ρ5 fun r ρ7 => escR ρ7 r fun z ρ8 => ρ8 = ρ5 ∧ V (j + 1) (bcc ++ [z]) else V (j + 1) bcc) ∧
          ∀ bcc, V es.length bcc → W (i + 1) bcc) (W (i + 1) acc)) ∧
      ∀ acc, W ds.length acc → Q (.pr (.lst acc)) (wipeR ρ1 (own.map (·.2)))
  | .tupR a => vd fun ρ Q => (vP Γ x a).1 ρ fun r ρ1 => useR ρ1 r fun d => ∃ j, d = .int j ∧ (0 ≤ j ∧ j ≤ 16777216) ∧ Q (.pr (.tup ((List.range j.toNat).map fun i : Nat => D.int (i : Int)))) ρ1
def vEs (Γ : Gm) (x : Xr) : Es → Rho → (List D → Rho → Prop) → Prop
  | .nil, ρ, Q => Q [] ρ
  | .cons e r, ρ, Q => (vP Γ x e).1 ρ fun v ρ1 => escR ρ1 v fun d ρ2 => vEs Γ x r ρ2 fun ds ρ3 => Q (d :: ds) ρ3
  | .star e r, ρ, Q => (vP Γ x e).1 ρ fun v ρ1 => useR ρ1 v fun d => ∃ xs, starD d = some xs ∧ vEs Γ x r ρ1 fun ds ρ2 => Q (xs ++ ds) ρ2
def vAs (Γ : Gm) (x : Xr) : Es → Rho → (List Rv → Rho → Prop) → Prop
  | .nil, ρ, Q => Q [] ρ
  | .cons e r, ρ, Q => (vP Γ x e).1 ρ fun v ρ1 => vAs Γ x r ρ1 fun vs ρ2 => Q (v :: vs) ρ2
  | .star _ _, _, _ => False
def vF (Γ : Gm) (x : Xr) : Es → Str → Rho → (Str → Rho → Prop) → Prop
  | .nil, acc, ρ, Q => Q acc ρ
  | .cons e r, acc, ρ, Q => (vP Γ x e).1 ρ fun v ρ1 => useR ρ1 v fun d => ∃ y, textD d = some y ∧ (acc ++ y).length ≤ sizeLine ∧ vF Γ x r (acc ++ y) ρ1 Q
  | .star _ _, _, _, _ => False
def vI (Γ : Gm) (x : Xr) : I → Rho → (List D → Rho → Prop) → Prop
  | .ov e, ρ, Q => (vP Γ x e).1 ρ fun v ρ1 => escR ρ1 v fun d ρ2 => ∃ ds, itemsOf d = some ds ∧ Q ds ρ2
  | .rng a, ρ, Q => (vP Γ x a).1 ρ fun v ρ1 => useR ρ1 v fun d => ∃ j, d = .int j ∧ (-(2 ^ 62) ≤ j ∧ j < 2 ^ 62) ∧ Q ((List.range j.toNat).map fun i : Nat => D.int (i : Int)) ρ1
  | .rng2 a b, ρ, Q => (vP Γ x a).1 ρ fun v ρ1 => (vP Γ x b).1 ρ1 fun u ρ2 => useR ρ2 v fun d => useR ρ2 u fun e => ∃ i j, d = .int i ∧ e = .int j ∧ (-(2 ^ 62) ≤ i ∧ i < 2 ^ 62 ∧ -(2 ^ 62) ≤ j ∧ j < 2 ^ 62) ∧
      Q ((List.range (j - i).toNat).map fun k : Nat => D.int (i + (k : Int))) ρ2
  | .zip a b, ρ, Q => (vP Γ x a).1 ρ fun v ρ1 => escR ρ1 v fun d ρ2 => (vP Γ x b).1 ρ2 fun u ρ3 => escR ρ3 u fun e ρ4 => ∃ ds es, itemsOf d = some ds ∧ itemsOf e = some es ∧ Q (List.zipWith (fun p q => D.tup [p, q]) ds es) ρ4
  | .enm a, ρ, Q => (vP Γ x a).1 ρ fun v ρ1 => escR ρ1 v fun d ρ2 => ∃ ds, d = .lst ds ∧ Q ((List.range ds.length).zipWith (fun (i : Nat) p => D.tup [D.int (i : Int), p]) ds) ρ2
end
mutual
def vS (Γ : Gm) (x : Xr) : S → En → Rho → Prop
  | .asg g e, D, ρ => (vP Γ x e).1 ρ fun r ρ1 => escR ρ1 r fun d ρ2 => setG g d ρ2 D.nx
  | .asgO i e, D, ρ => (vP Γ x e).1 ρ fun r ρ1 => match r with
    | .pr d => D.nx (ρ1.set i (some (true, d)))
    | _ => False
  | .par js es, D, ρ => vEs Γ x es ρ fun ds ρ1 => ds.length = js.length ∧ D.nx (setMany ρ1 js ds)
  | .parO i j a b, D, ρ => (vP Γ x a).1 ρ fun r ρ1 => match r with
    | .pr d => (vP Γ x b).1 ρ1 fun s ρ2 => escR ρ2 s fun e ρ3 => D.nx ((ρ3.set i (some (true, d))).set j (some (false, e)))
    | _ => False
  | .aug i op e, D, ρ => match ρ[i]? with
    | some (some (false, d)) => (vP Γ x e).1 ρ fun s ρ1 => useR ρ1 s fun f => dAug op d f fun z => D.nx (ρ1.set i (some (false, z)))
    | _ => False
  | .setix i k e, D, ρ => (vP Γ x e).1 ρ fun r ρ1 => escR ρ1 r fun d ρ2 => (∃ x0, ρ2[i]? = some (some (true, x0))) ∧ (vP Γ x k).1 ρ2 fun s ρ3 => useR ρ3 s fun f => ∃ xs, ρ3[i]? = some (some (true, .lst xs)) ∧
      ∃ j m, f = .int j ∧ ixN xs.length j = some m ∧ D.nx (ρ3.set i (some (true, .lst (xs.set m d))))
  | .exp e, D, ρ => (vP Γ x e).1 ρ fun _ ρ1 => D.nx ρ1
  | .ret e, D, ρ => (vP Γ x e).1 ρ fun r ρ1 => escR ρ1 r fun d _ => D.rt d
  | .retN, D, _ => D.rt .non
  | .ite c a b, D, ρ => (vP Γ x c).2 ρ fun z ρ1 => br z (vSs Γ x a D ρ1) (vSs Γ x b D ρ1)
  | .for g it b, D, ρ => vI Γ x it ρ fun ds ρ1 => ∃ W : Nat → Rho → Prop, W 0 ρ1 ∧
      (∀ i d ρ2, ds[i]? = some d → W i ρ2 → setG g d ρ2 fun ρ3 => vSs Γ x b { D with nx := W (i + 1), ct := W (i + 1), bk := D.nx } ρ3) ∧ ∀ ρ2, W ds.length ρ2 → D.nx ρ2
  | .whl c b, D, ρ => ∃ W : Nat → Rho → Prop, (∃ m, m < 2 ^ 100 ∧ W m ρ) ∧ ∀ m ρ1, W m ρ1 → (vP Γ x c).2 ρ1 fun z ρ2 =>
      br z (vSs Γ x b { D with nx := fun ρ3 => ∃ m', m' < m ∧ W m' ρ3, ct := fun ρ3 => ∃ m', m' < m ∧ W m' ρ3, bk := D.nx } ρ2) (D.nx ρ2)
  | .brk, D, ρ => D.bk ρ
  | .cnt, D, ρ => D.ct ρ
  | .pass, D, ρ => D.nx ρ
  | .rse, _, _ => False
  | .raise c _ es, _, ρ => vEs Γ x es ρ fun ds ρ1 => x c ds ρ1
  | .try1 b c a i h, D, ρ => vSs Γ (hX Γ x c a i h D.nx) b D ρ
def vSs (Γ : Gm) (x : Xr) : Ss → En → Rho → Prop
  | .nil, D, ρ => D.nx ρ
  | .cons s r, D, ρ => vS Γ x s { D with nx := vSs Γ x r D } ρ
end

mutual
theorem vP_eq (Γ : Gm) : ∀ (x : Xr) (e : E), vP Γ x e = (wE Γ x e, wT Γ x e)
  | x, .int i => by refine Prod.ext (funext fun ρ => funext fun Q => ?_) (funext fun ρ => funext fun Q => ?_) <;> simp only [vP, vd, wE, wT, br_eq] <;> rfl
  | x, .bl b => by refine Prod.ext (funext fun ρ => funext fun Q => ?_) (funext fun ρ => funext fun Q => ?_) <;> simp only [vP, vd, wE, wT, br_eq] <;> rfl
  | x, .non => by refine Prod.ext (funext fun ρ => funext fun Q => ?_) (funext fun ρ => funext fun Q => ?_) <;> simp only [vP, vd, wE, wT, br_eq] <;> rfl
  | x, .str y => by refine Prod.ext (funext fun ρ => funext fun Q => ?_) (funext fun ρ => funext fun Q => ?_) <;> simp only [vP, vd, wE, wT, br_eq] <;> rfl
  | x, .var i => by refine Prod.ext (funext fun ρ => funext fun Q => ?_) (funext fun ρ => funext fun Q => ?_) <;> simp only [vP, vd, wE, wT, br_eq] <;> rfl
  | x, .glb g => by refine Prod.ext (funext fun ρ => funext fun Q => ?_) (funext fun ρ => funext fun Q => ?_) <;> simp only [vP, vd, wE, wT, br_eq] <;> rfl
  | x, .bin op a b => by refine Prod.ext (funext fun ρ => funext fun Q => ?_) (funext fun ρ => funext fun Q => ?_) <;> simp only [vP, vd, wE, wT, br_eq, vP_eq Γ x a, vP_eq Γ x b] <;> rfl
  | x, .neg a => by refine Prod.ext (funext fun ρ => funext fun Q => ?_) (funext fun ρ => funext fun Q => ?_) <;> simp only [vP, vd, wE, wT, br_eq, vP_eq Γ x a] <;> rfl
  | x, .not a => by refine Prod.ext (funext fun ρ => funext fun Q => ?_) (funext fun ρ => funext fun Q => ?_) <;> simp only [vP, vd, wE, wT, br_eq, vP_eq Γ x a] <;> rfl
  | x, .and a b => by refine Prod.ext (funext fun ρ => funext fun Q => ?_) (funext fun ρ => funext fun Q => ?_) <;> simp only [vP, vd, wE, wT, br_eq, vP_eq Γ x a, vP_eq Γ x b] <;> rfl
  | x, .or a b => by refine Prod.ext (funext fun ρ => funext fun Q => ?_) (funext fun ρ => funext fun Q => ?_) <;> simp only [vP, vd, wE, wT, br_eq, vP_eq Γ x a, vP_eq Γ x b] <;> rfl
  | x, .cmp op a b => by refine Prod.ext (funext fun ρ => funext fun Q => ?_) (funext fun ρ => funext fun Q => ?_) <;> simp only [vP, vd, wE, wT, br_eq, vP_eq Γ x a, vP_eq Γ x b] <;> rfl
  | x, .cmp2 o1 o2 a b c => by refine Prod.ext (funext fun ρ => funext fun Q => ?_) (funext fun ρ => funext fun Q => ?_) <;> simp only [vP, vd, wE, wT, br_eq, vP_eq Γ x a, vP_eq Γ x b, vP_eq Γ x c] <;> rfl
  | x, .ite c a b => by refine Prod.ext (funext fun ρ => funext fun Q => ?_) (funext fun ρ => funext fun Q => ?_) <;> simp only [vP, vd, wE, wT, br_eq, vP_eq Γ x c, vP_eq Γ x a, vP_eq Γ x b] <;> rfl
  | x, .tup es => by refine Prod.ext (funext fun ρ => funext fun Q => ?_) (funext fun ρ => funext fun Q => ?_) <;> simp only [vP, vd, wE, wT, br_eq, vEs_eq Γ x es] <;> rfl
  | x, .lst es => by refine Prod.ext (funext fun ρ => funext fun Q => ?_) (funext fun ρ => funext fun Q => ?_) <;> simp only [vP, vd, wE, wT, br_eq, vEs_eq Γ x es] <;> rfl
  | x, .dct0 => by refine Prod.ext (funext fun ρ => funext fun Q => ?_) (funext fun ρ => funext fun Q => ?_) <;> simp only [vP, vd, wE, wT, br_eq] <;> rfl
  | x, .dct1 k v => by refine Prod.ext (funext fun ρ => funext fun Q => ?_) (funext fun ρ => funext fun Q => ?_) <;> simp only [vP, vd, wE, wT, br_eq, vP_eq Γ x k, vP_eq Γ x v] <;> rfl
  | x, .ix a b => by refine Prod.ext (funext fun ρ => funext fun Q => ?_) (funext fun ρ => funext fun Q => ?_) <;> simp only [vP, vd, wE, wT, br_eq, vP_eq Γ x a, vP_eq Γ x b] <;> rfl
  | x, .slL a lo => by refine Prod.ext (funext fun ρ => funext fun Q => ?_) (funext fun ρ => funext fun Q => ?_) <;> simp only [vP, vd, wE, wT, br_eq, vP_eq Γ x a, vP_eq Γ x lo] <;> rfl
  | x, .slU a hi => by refine Prod.ext (funext fun ρ => funext fun Q => ?_) (funext fun ρ => funext fun Q => ?_) <;> simp only [vP, vd, wE, wT, br_eq, vP_eq Γ x a, vP_eq Γ x hi] <;> rfl
  | x, .slLU a lo hi => by refine Prod.ext (funext fun ρ => funext fun Q => ?_) (funext fun ρ => funext fun Q => ?_) <;> simp only [vP, vd, wE, wT, br_eq, vP_eq Γ x a, vP_eq Γ x lo, vP_eq Γ x hi] <;> rfl
  | x, .slR a => by refine Prod.ext (funext fun ρ => funext fun Q => ?_) (funext fun ρ => funext fun Q => ?_) <;> simp only [vP, vd, wE, wT, br_eq, vP_eq Γ x a] <;> rfl
  | x, .isi a T => by refine Prod.ext (funext fun ρ => funext fun Q => ?_) (funext fun ρ => funext fun Q => ?_) <;> simp only [vP, vd, wE, wT, br_eq, vP_eq Γ x a] <;> rfl
  | x, .call f es => by refine Prod.ext (funext fun ρ => funext fun Q => ?_) (funext fun ρ => funext fun Q => ?_) <;> simp only [vP, vd, wE, wT, br_eq, vAs_eq Γ x es] <;> rfl
  | x, .callk j es ks => by refine Prod.ext (funext fun ρ => funext fun Q => ?_) (funext fun ρ => funext fun Q => ?_) <;> simp only [vP, vd, wE, wT, br_eq, vAs_eq Γ x es, vAs_eq Γ x ks] <;> rfl
  | x, .blt id es => by refine Prod.ext (funext fun ρ => funext fun Q => ?_) (funext fun ρ => funext fun Q => ?_) <;> simp only [vP, vd, wE, wT, br_eq, vAs_eq Γ x es] <;> rfl
  | x, .mth id o es => by refine Prod.ext (funext fun ρ => funext fun Q => ?_) (funext fun ρ => funext fun Q => ?_) <;> simp only [vP, vd, wE, wT, br_eq, vP_eq Γ x o, vAs_eq Γ x es] <;> rfl
  | x, .mut id i es => by refine Prod.ext (funext fun ρ => funext fun Q => ?_) (funext fun ρ => funext fun Q => ?_) <;> simp only [vP, vd, wE, wT, br_eq, vEs_eq Γ x es] <;> rfl
  | x, .lc elt tg it cond own => by refine Prod.ext (funext fun ρ => funext fun Q => ?_) (funext fun ρ => funext fun Q => ?_) <;> simp only [vP, vd, wE, wT, br_eq, vI_eq Γ x it, vP_eq Γ noX cond, vP_eq Γ noX elt] <;> rfl
  | x, .fld a c j => by refine Prod.ext (funext fun ρ => funext fun Q => ?_) (funext fun ρ => funext fun Q => ?_) <;> simp only [vP, vd, wE, wT, br_eq, vP_eq Γ x a] <;> rfl
  | x, .appn c f es => by refine Prod.ext (funext fun ρ => funext fun Q => ?_) (funext fun ρ => funext fun Q => ?_) <;> simp only [vP, vd, wE, wT, br_eq, vAs_eq Γ x es] <;> rfl
  | x, .apps c f a b => by refine Prod.ext (funext fun ρ => funext fun Q => ?_) (funext fun ρ => funext fun Q => ?_) <;> simp only [vP, vd, wE, wT, br_eq, vP_eq Γ x a, vP_eq Γ x b] <;> rfl
  | x, .appc c f a b => by refine Prod.ext (funext fun ρ => funext fun Q => ?_) (funext fun ρ => funext fun Q => ?_) <;> simp only [vP, vd, wE, wT, br_eq, vP_eq Γ x a, vP_eq Γ x b] <;> rfl
  | x, .appm c f o es => by refine Prod.ext (funext fun ρ => funext fun Q => ?_) (funext fun ρ => funext fun Q => ?_) <;> simp only [vP, vd, wE, wT, br_eq, vP_eq Γ x o, vAs_eq Γ x es] <;> rfl
  | x, .appk c j o ks => by refine Prod.ext (funext fun ρ => funext fun Q => ?_) (funext fun ρ => funext fun Q => ?_) <;> simp only [vP, vd, wE, wT, br_eq, vP_eq Γ x o, vAs_eq Γ x ks] <;> rfl
  | x, .propm c f a => by refine Prod.ext (funext fun ρ => funext fun Q => ?_) (funext fun ρ => funext fun Q => ?_) <;> simp only [vP, vd, wE, wT, br_eq, vP_eq Γ x a] <;> rfl
  | x, .cm c f es => by refine Prod.ext (funext fun ρ => funext fun Q => ?_) (funext fun ρ => funext fun Q => ?_) <;> simp only [vP, vd, wE, wT, br_eq, vAs_eq Γ x es] <;> rfl
  | x, .cmk c j ks => by refine Prod.ext (funext fun ρ => funext fun Q => ?_) (funext fun ρ => funext fun Q => ?_) <;> simp only [vP, vd, wE, wT, br_eq, vAs_eq Γ x ks] <;> rfl
  | x, .appv i c f es => by refine Prod.ext (funext fun ρ => funext fun Q => ?_) (funext fun ρ => funext fun Q => ?_) <;> simp only [vP, vd, wE, wT, br_eq, vAs_eq Γ x es] <;> rfl
  | x, .appb _ c f a b => by refine Prod.ext (funext fun ρ => funext fun Q => ?_) (funext fun ρ => funext fun Q => ?_) <;> simp only [vP, vd, wE, wT, br_eq, vP_eq Γ x a, vP_eq Γ x b] <;> rfl
  | x, .isc c a => by refine Prod.ext (funext fun ρ => funext fun Q => ?_) (funext fun ρ => funext fun Q => ?_) <;> simp only [vP, vd, wE, wT, br_eq, vP_eq Γ x a] <;> rfl
  | x, .fstr es => by refine Prod.ext (funext fun ρ => funext fun Q => ?_) (funext fun ρ => funext fun Q => ?_) <;> simp only [vP, vd, wE, wT, br_eq, vF_eq Γ x es] <;> rfl
  | x, .ownd e => by refine Prod.ext (funext fun ρ => funext fun Q => ?_) (funext fun ρ => funext fun Q => ?_) <;> simp only [vP, vd, wE, wT, br_eq, vP_eq Γ x e] <;> rfl
  | x, .lenm c f a => by refine Prod.ext (funext fun ρ => funext fun Q => ?_) (funext fun ρ => funext fun Q => ?_) <;> simp only [vP, vd, wE, wT, br_eq, vP_eq Γ x a] <;> rfl
  | x, .appe c f a b => by refine Prod.ext (funext fun ρ => funext fun Q => ?_) (funext fun ρ => funext fun Q => ?_) <;> simp only [vP, vd, wE, wT, br_eq, vP_eq Γ x a, vP_eq Γ x b] <;> rfl
  | x, .newk c j ks => by refine Prod.ext (funext fun ρ => funext fun Q => ?_) (funext fun ρ => funext fun Q => ?_) <;> simp only [vP, vd, wE, wT, br_eq, vAs_eq Γ x ks] <;> rfl
  | x, .lstR a => by refine Prod.ext (funext fun ρ => funext fun Q => ?_) (funext fun ρ => funext fun Q => ?_) <;> simp only [vP, vd, wE, wT, br_eq, vP_eq Γ x a] <;> rfl
  | x, .appq ne c f a b => by refine Prod.ext (funext fun ρ => funext fun Q => ?_) (funext fun ρ => funext fun Q => ?_) <;> simp only [vP, vd, wE, wT, br_eq, vP_eq Γ x a, vP_eq Γ x b] <;> rfl
  | x, .lc2 elt tg it cond tg1 it1 cond1 own ow1 => by refine Prod.ext (funext fun ρ => funext fun Q => ?_) (funext fun ρ => funext fun Q => ?_) <;> simp only [vP, vd, wE, wT, br_eq, vI_eq Γ x it, vP_eq Γ noX cond, vI_eq Γ noX it1, vP_eq Γ noX cond1, vP_eq Γ noX elt] <;> rfl
  | x, .tupR a => by refine Prod.ext (funext fun ρ => funext fun Q => ?_) (funext fun ρ => funext fun Q => ?_) <;> simp only [vP, vd, wE, wT, br_eq, vP_eq Γ x a] <;> rfl
theorem vEs_eq (Γ : Gm) : ∀ (x : Xr) (e : Es), vEs Γ x e = DL.wEs Γ x e
  | x, .nil => by funext ρ Q; simp only [vEs, DL.wEs]
  | x, .cons e r => by funext ρ Q; simp only [vEs, DL.wEs, vP_eq Γ x e, vEs_eq Γ x r]
  | x, .star e r => by funext ρ Q; simp only [vEs, DL.wEs, vP_eq Γ x e, vEs_eq Γ x r]
theorem vAs_eq (Γ : Gm) : ∀ (x : Xr) (e : Es), vAs Γ x e = DL.wAs Γ x e
  | x, .nil => by funext ρ Q; simp only [vAs, DL.wAs]
  | x, .cons e r => by funext ρ Q; simp only [vAs, DL.wAs, vP_eq Γ x e, vAs_eq Γ x r]
  | x, .star e r => by funext ρ Q; simp only [vAs, DL.wAs, vP_eq Γ x e, vAs_eq Γ x r]
theorem vF_eq (Γ : Gm) : ∀ (x : Xr) (e : Es), vF Γ x e = DL.wF Γ x e
  | x, .nil => by funext acc ρ Q; simp only [vF, DL.wF]
  | x, .cons e r => by funext acc ρ Q; simp only [vF, DL.wF, vP_eq Γ x e, vF_eq Γ x r]
  | x, .star e r => by funext acc ρ Q; simp only [vF, DL.wF]
theorem vI_eq (Γ : Gm) : ∀ (x : Xr) (e : I), vI Γ x e = DL.wI Γ x e
  | x, .ov a => by funext ρ Q; simp only [vI, DL.wI, vP_eq Γ x a]
  | x, .rng a => by funext ρ Q; simp only [vI, DL.wI, vP_eq Γ x a]
  | x, .rng2 a b => by funext ρ Q; simp only [vI, DL.wI, vP_eq Γ x a, vP_eq Γ x b]
  | x, .zip a b => by funext ρ Q; simp only [vI, DL.wI, vP_eq Γ x a, vP_eq Γ x b]
  | x, .enm a => by funext ρ Q; simp only [vI, DL.wI, vP_eq Γ x a]
end
mutual
theorem vS_eq (Γ : Gm) : ∀ (x : Xr) (s : S), vS Γ x s = wS Γ x s
  | x, .asg g e => by funext D ρ; simp only [vS, wS, br_eq, vP_eq Γ x e] <;> rfl
  | x, .asgO i e => by funext D ρ; simp only [vS, wS, br_eq, vP_eq Γ x e] <;> rfl
  | x, .par js es => by funext D ρ; simp only [vS, wS, br_eq, vEs_eq Γ x es] <;> rfl
  | x, .parO i j a b => by funext D ρ; simp only [vS, wS, br_eq, vP_eq Γ x a, vP_eq Γ x b] <;> rfl
  | x, .aug i op e => by funext D ρ; simp only [vS, wS, br_eq, vP_eq Γ x e] <;> rfl
  | x, .setix i k e => by funext D ρ; simp only [vS, wS, br_eq, vP_eq Γ x e, vP_eq Γ x k] <;> rfl
  | x, .exp e => by funext D ρ; simp only [vS, wS, br_eq, vP_eq Γ x e] <;> rfl
  | x, .ret e => by funext D ρ; simp only [vS, wS, br_eq, vP_eq Γ x e] <;> rfl
  | x, .retN => by funext D ρ; simp only [vS, wS, br_eq] <;> rfl
  | x, .ite c a b => by funext D ρ; simp only [vS, wS, br_eq, vP_eq Γ x c, vSs_eq Γ x a, vSs_eq Γ x b] <;> rfl
  | x, .for g it b => by funext D ρ; simp only [vS, wS, br_eq, vI_eq Γ x it, vSs_eq Γ x b] <;> rfl
  | x, .whl c b => by funext D ρ; simp only [vS, wS, br_eq, vP_eq Γ x c, vSs_eq Γ x b] <;> rfl
  | x, .brk => by funext D ρ; simp only [vS, wS, br_eq] <;> rfl
  | x, .cnt => by funext D ρ; simp only [vS, wS, br_eq] <;> rfl
  | x, .pass => by funext D ρ; simp only [vS, wS, br_eq] <;> rfl
  | x, .rse => by funext D ρ; simp only [vS, wS, br_eq] <;> rfl
  | x, .raise c _ es => by funext D ρ; simp only [vS, wS, br_eq, vEs_eq Γ x es] <;> rfl
  | x, .try1 b c a i h => by funext D ρ; simp only [vS, wS, br_eq, vSs_eq Γ (hX Γ x c a i h D.nx) b] <;> rfl
theorem vSs_eq (Γ : Gm) : ∀ (x : Xr) (s : Ss), vSs Γ x s = wSs Γ x s
  | x, .nil => by funext D ρ; simp only [vSs, wSs]
  | x, .cons s r => by funext D ρ; simp only [vSs, wSs, vS_eq Γ x s, vSs_eq Γ x r]
end
end DL

set_option Elab.async false
set_option linter.all false
set_option maxRecDepth 100000
set_option maxHeartbeats 4000000
namespace DL
open PySem L2
/-! ### how long a repr is -/
mutual
def rsz : PyData → Nat
  | .none | .bool _ => 5
  | .int i => (Str.ofString (toString i)).length
  | .str x => 10 * x.length + 2
  | .list xs | .tuple xs => rszs xs + 4
  | .dict _ => 0
def rszs : List PyData → Nat
  | [] => 0
  | x :: xs => rsz x + 2 + rszs xs
end
mutual
def rok : PyData → Bool
  | .str x => x.cps.toList.all fun c => decide (c < 4294967296)
  | .list xs | .tuple xs => roks xs
  | .dict _ => false
  | _ => true
def roks : List PyData → Bool
  | [] => true
  | x :: xs => rok x && roks xs
end
theorem textFrom_le : ∀ (ts : List Str) (k : Nat) (acc : Str), (textFrom k acc ts).length ≤ acc.length + piled ts
  | [], k, acc => Nat.le_refl _
  | t :: r, k, acc => by
    have h := textFrom_le r (k + 1) (acc ++ (if k > 0 then ", " else "" : String) ++ t)
    have e : (acc ++ (if k > 0 then ", " else "" : String) ++ t).length = acc.length + (if k > 0 then 2 else 0) + t.length := by
      rw [strLen_append, strLen_append]
      split <;> rfl
    rw [e] at h
    rw [piled_cons]
    have d1 : (if k > 0 then 2 else 0 : Nat) ≤ 2 := by split <;> omega
    show (textFrom (k + 1) (acc ++ (if k > 0 then ", " else "" : String) ++ t) r).length ≤ acc.length + (t.length + 2 + piled r)
    omega
theorem tupleText_le (ts : List Str) : (tupleText ts).length ≤ piled ts + 3 := by
  unfold tupleText
  rw [strLen_append, strLen_append]
  have e1 : ((("(" : String) : Str)).length = 1 := rfl
  have e3 : (((if ts.length == 1 then ",)" else ")" : String) : Str)).length ≤ 2 := by split <;> decide
  rw [e1]
  by_cases h : ts = []
  · subst h
    have : (Str.join ", " []).length = 0 := rfl
    omega
  · have := join_length_add ts h
    omega
mutual
theorem shown_le : ∀ d : PyData, rok d = true → d.shown.length ≤ rsz d
  | .none, _ => by decide
  | .bool true, _ => by decide
  | .bool false, _ => by decide
  | .int i, _ => Nat.le_refl _
  | .str x, h => by
    unfold rok at h
    exact StrLaws.reprText_len x fun c hc => of_decide_eq_true (List.all_eq_true.mp h c hc)
  | .list xs, h => by
    unfold rok at h
    have h := showns_le xs h
    show (listText (PyData.shownAll xs)).length ≤ rszs xs + 4
    unfold listText
    rw [strLen_append]
    have := textFrom_le (PyData.shownAll xs) 0 "["
    have e1 : ((("[" : String) : Str)).length = 1 := rfl
    have e2 : ((("]" : String) : Str)).length = 1 := rfl
    omega
  | .tuple xs, h => by
    unfold rok at h
    have h := showns_le xs h
    show (tupleText (PyData.shownAll xs)).length ≤ rszs xs + 4
    have := tupleText_le (PyData.shownAll xs)
    omega
  | .dict _, h => by unfold rok at h; cases h
theorem showns_le : ∀ xs : List PyData, roks xs = true → piled (PyData.shownAll xs) ≤ rszs xs
  | [], _ => Nat.le_refl _
  | x :: xs, h => by
    unfold roks at h
    rw [Bool.and_eq_true] at h
    have h1 := shown_le x h.1
    have h2 := showns_le xs h.2
    show piled (x.shown :: PyData.shownAll xs) ≤ rsz x + 2 + rszs xs
    rw [piled_cons]
    omega
end
/-- plain data that is not too long shows -/
theorem shows_of {d : D} (h1 : d.shows = true) (h2 : d.py.depth ≤ 60) (h3 : d.py.showable = true) (h4 : rok d.py = true) (h5 : rsz d.py ≤ sizeLine) : Shows d := ⟨h1, h2, h3, Nat.le_trans (shown_le _ h4) h5⟩
/-! ### texts of numbers -/
def num (i : Int) : Str := Str.ofString (toString i)
theorem num_tl {i : Int} (h : 0 ≤ i) : (num i).cps.toList = TL.numL i.toNat := by
  obtain ⟨n, rfl⟩ := Int.eq_ofNat_of_zero_le h
  exact TL.tl_num n
theorem num_digit {i : Int} (h : 0 ≤ i) : ∀ c ∈ (num i).cps.toList, 48 ≤ c ∧ c ≤ 57 := by
  rw [num_tl h]
  exact TL.numL_digits _
theorem num_inj {i j : Int} (hi : 0 ≤ i) (hj : 0 ≤ j) (h : num i = num j) : i = j := by
  have e : (num i).cps.toList = (num j).cps.toList := by rw [h]
  rw [num_tl hi, num_tl hj] at e
  have := TL.numL_inj e
  omega
theorem num_len {i : Int} {k : Nat} (h : 0 ≤ i) (hk : 0 < k) (h1 : i < 10 ^ k) : (num i).length ≤ k := by
  obtain ⟨n, rfl⟩ := Int.eq_ofNat_of_zero_le h
  rw [← t_len, num_tl h]
  refine TL.numL_len hk ?_
  have e : ((10 : Int) ^ k) = ((10 ^ k : Nat) : Int) := by
    first
      | exact (Int.natCast_pow 10 k).symm
      | simp
  rw [e] at h1
  show ((n : Nat) : Int).toNat < 10 ^ k
  omega
theorem num_back {i : Int} (h : 0 ≤ i) (h1 : (num i).length ≤ 4300) : intText? (num i) = some i := by
  obtain ⟨n, rfl⟩ := Int.eq_ofNat_of_zero_le h
  refine TL.int_num ?_
  rw [← t_len, num_tl h] at h1
  exact h1
/-- no needless zero -/
theorem numL_first (n : Nat) : ∃ c r, TL.numL n = c :: r ∧ (n ≠ 0 → c ≠ 48) := by
  induction n using Nat.strongRecOn with
  | _ n ih =>
    by_cases h : n < 10
    · exact ⟨48 + n, [], TL.numL_lt h, fun e => by omega⟩
    · obtain ⟨c, r, e, hc⟩ := ih (n / 10) (by omega)
      rw [TL.numL_step (by omega), e]
      exact ⟨c, r ++ [48 + n % 10], rfl, fun _ => hc (by omega)⟩
theorem num_log {i : Int} (h : 0 ≤ i) (h1 : i < 2 ^ 64) : i.natAbs.log2 < 1920 := by
  have h2 : i.natAbs < 2 ^ 64 := by omega
  by_cases h0 : i.natAbs = 0
  · rw [h0]; decide
  · exact Nat.lt_trans ((Nat.log2_lt h0).mpr h2) (by decide)
/-! ### joined texts -/
theorem joinL_mem {S : List Nat} {c : Nat} : ∀ {ps : List (List Nat)}, c ∈ TL.joinL S ps → c ∈ S ∨ ∃ p ∈ ps, c ∈ p
  | [], h => by cases h
  | [p], h => .inr ⟨p, List.mem_singleton.mpr rfl, h⟩
  | p :: q :: r, h => by
    rcases List.mem_append.mp (show c ∈ p ++ (S ++ TL.joinL S (q :: r)) from h) with h | h
    · exact .inr ⟨p, List.mem_cons_self .., h⟩
    · rcases List.mem_append.mp h with h | h
      · exact .inl h
      · rcases joinL_mem h with h | ⟨z, hz, h⟩
        · exact .inl h
        · exact .inr ⟨z, List.mem_cons_of_mem _ hz, h⟩
theorem joinL_snoc {S : List Nat} {a : List Nat} : ∀ {ps : List (List Nat)}, ps ≠ [] → TL.joinL S (ps ++ [a]) = TL.joinL S ps ++ (S ++ a)
  | [], h => absurd rfl h
  | [p], _ => rfl
  | p :: q :: r, _ => by
    show p ++ (S ++ TL.joinL S (q :: r ++ [a])) = (p ++ (S ++ TL.joinL S (q :: r))) ++ (S ++ a)
    rw [joinL_snoc (by simp), List.append_assoc, List.append_assoc]
theorem joinL_len {S : List Nat} {m : Nat} : ∀ {ps : List (List Nat)}, (∀ p ∈ ps, p.length ≤ m) → (TL.joinL S ps).length ≤ ps.length * (m + S.length)
  | [], _ => Nat.zero_le _
  | [p], h => by
    have := h p (List.mem_singleton.mpr rfl)
    show p.length ≤ 1 * (m + S.length)
    omega
  | p :: q :: r, h => by
    have h1 := h p (List.mem_cons_self ..)
    have h2 := joinL_len (S := S) (ps := q :: r) fun z hz => h z (List.mem_cons_of_mem _ hz)
    show (p ++ (S ++ TL.joinL S (q :: r))).length ≤ (r.length + 1 + 1) * (m + S.length)
    rw [List.length_append, List.length_append]
    simp only [List.length_cons] at h2
    rw [Nat.succ_mul]
    omega
theorem join_snoc {y a : Str} {ps : List Str} (h : ps ≠ []) : Str.join y (ps ++ [a]) = Str.join y ps ++ y ++ a := TL.ext_tl (by
  rw [TL.tl_join, List.map_append, List.map_singleton, joinL_snoc (fun e => h (List.map_eq_nil_iff.mp e)), TL.tl_append, TL.tl_append, TL.tl_join, List.append_assoc])
theorem join_len {y : Str} {ps : List Str} {m : Nat} (h : ∀ p ∈ ps, p.length ≤ m) : (Str.join y ps).length ≤ ps.length * (m + y.length) := by
  have := joinL_len (S := TL.tl y) (ps := ps.map TL.tl) (m := m) fun p hp => by
    obtain ⟨z, hz, rfl⟩ := List.mem_map.mp hp
    rw [t_len]
    exact h z hz
  rw [← TL.tl_join, t_len, t_len, List.length_map] at this
  exact this
theorem join_mem {y : Str} {ps : List Str} {c : Nat} (h : c ∈ (Str.join y ps).cps.toList) : c ∈ y.cps.toList ∨ ∃ p ∈ ps, c ∈ p.cps.toList := by
  rw [show (Str.join y ps).cps.toList = _ from TL.tl_join y ps] at h
  rcases joinL_mem h with h | ⟨p, hp, h⟩
  · exact .inl h
  · obtain ⟨z, hz, rfl⟩ := List.mem_map.mp hp
    exact .inr ⟨z, hz, h⟩
/-- a joined text, split -/
theorem split_back {y : Str} {s : Nat} (ey : y.cps.toList = [s]) (hs : s < 256) {ps : List Str} (h0 : ps ≠ []) (h : ∀ p ∈ ps, s ∉ p.cps.toList) : Txt.split (Str.join y ps) y = ps := by
  rw [← TL.join_eq]
  refine TL.split_join (s := s) (S := []) ey ?_ h0 h
  rw [← Array.all_toList, ey]
  simp only [List.all_cons, List.all_nil, Bool.and_true]
  exact decide_eq_true hs
theorem join_inj {y : Str} {s : Nat} (ey : y.cps.toList = [s]) (hs : s < 256) {ps qs : List Str} (h0 : ps ≠ []) (h1 : qs ≠ []) (hp : ∀ p ∈ ps, s ∉ p.cps.toList) (hq : ∀ p ∈ qs, s ∉ p.cps.toList) (h : Str.join y ps = Str.join y qs) : ps = qs := by
  rw [← split_back ey hs h0 hp, h, split_back ey hs h1 hq]
theorem strOk_of {x : Str} (h : ∀ c ∈ x.cps.toList, c < 1114112) : PyData.strOk x = true := by
  unfold PyData.strOk
  rw [← Array.all_toList]
  exact List.all_eq_true.mpr fun c hc => decide_eq_true (h c hc)
theorem strs_map (l : List Str) : strsD (l.map D.str) = some l := by
  induction l with
  | nil => rfl
  | cons a r ih => rw [List.map_cons, strsD, ih]; rfl
theorem join_sum {y : Str} {ps : List Str} {m : Nat} (h : ∀ p ∈ ps, p.length ≤ m) : (ps.map (·.length)).sum ≤ ps.length * m := by
  induction ps with
  | nil => exact Nat.zero_le _
  | cons a r ih =>
    have h1 := h a (List.mem_cons_self ..)
    have h2 := ih fun z hz => h z (List.mem_cons_of_mem _ hz)
    rw [List.map_cons, List.sum_cons, List.length_cons, Nat.succ_mul]
    omega
end DL

set_option Elab.async false
set_option linter.all false
set_option maxRecDepth 100000
set_option maxHeartbeats 4000000
namespace DL
open PySem L2
/-! ### any text, split at one sign -/
theorem pre_one (s c : Nat) (r : List Nat) : TL.pre [s] (c :: r) = decide (c = s) := by
  by_cases h : c = s
  · subst h
    rw [decide_eq_true rfl]
    exact TL.pre_self [c] r
  · rw [decide_eq_false h]
    exact TL.pre_of_head [] r h
theorem spl_ne (s : Nat) : ∀ (l acc : List Nat), TL.spl [s] 0 acc l ≠ []
  | [], acc => by rw [TL.spl_nil]; simp
  | c :: r, acc => by
    by_cases h : c = s
    · rw [TL.spl_hit (by rw [pre_one, decide_eq_true h])]; simp
    · rw [TL.spl_miss (by rw [pre_one, decide_eq_false h])]
      exact spl_ne s r _
theorem spl_join1 (s : Nat) : ∀ (l acc : List Nat), TL.joinL [s] (TL.spl [s] 0 acc l) = acc ++ l
  | [], acc => by rw [TL.spl_nil, List.append_nil]; rfl
  | c :: r, acc => by
    by_cases h : c = s
    · rw [TL.spl_hit (by rw [pre_one, decide_eq_true h])]
      have ih := spl_join1 s r []
      show TL.joinL [s] (acc :: TL.spl [s] 0 [] r) = _
      have ne := spl_ne s r []
      cases e : TL.spl [s] 0 [] r with
      | nil => exact absurd e ne
      | cons p q =>
        rw [e] at ih
        show acc ++ ([s] ++ TL.joinL [s] (p :: q)) = _
        rw [ih, h]
        rfl
    · rw [TL.spl_miss (by rw [pre_one, decide_eq_false h]), spl_join1 s r, List.append_assoc]
      rfl
theorem spl_mem1 (s : Nat) : ∀ (l acc p : List Nat), p ∈ TL.spl [s] 0 acc l → (∀ c ∈ p, c ∈ acc ∨ c ∈ l) ∧ (s ∉ acc → s ∉ p)
  | [], acc, p, h => by
    rw [TL.spl_nil] at h
    rw [List.mem_singleton.mp h]
    exact ⟨fun c hc => .inl hc, id⟩
  | c :: r, acc, p, h => by
    by_cases e : c = s
    · rw [TL.spl_hit (by rw [pre_one, decide_eq_true e])] at h
      rcases List.mem_cons.mp h with rfl | h
      · exact ⟨fun c hc => .inl hc, id⟩
      · obtain ⟨h1, h2⟩ := spl_mem1 s r [] p h
        exact ⟨fun d hd => .inr ((h1 d hd).elim (fun z => nomatch z) fun z => List.mem_cons_of_mem _ z), fun _ => h2 (fun z => nomatch z)⟩
    · rw [TL.spl_miss (by rw [pre_one, decide_eq_false e])] at h
      obtain ⟨h1, h2⟩ := spl_mem1 s r _ p h
      refine ⟨fun d hd => ?_, fun hs => h2 fun z => ?_⟩
      · rcases h1 d hd with z | z
        · rcases List.mem_append.mp z with z | z
          · exact .inl z
          · rw [List.mem_singleton.mp z]; exact .inr List.mem_cons_self
        · exact .inr (List.mem_cons_of_mem _ z)
      · rcases List.mem_append.mp z with z | z
        · exact hs z
        · exact e (List.mem_singleton.mp z).symm
section
variable {y : Str} {s : Nat} (ey : y.cps.toList = [s]) (hs : s < 256)
include ey hs
theorem split_tl (x : Str) : (Txt.split x y).map TL.tl = TL.spl [s] 0 [] x.cps.toList := by
  have hk : y.cps.all (· < 256) = true := by
    rw [← Array.all_toList, ey]
    simp only [List.all_cons, List.all_nil, Bool.and_true]
    exact decide_eq_true hs
  have := TL.split_spl x y (by show y.cps.toList ≠ []; rw [ey]; simp) (TL.kind_ok hk)
  rw [this]
  show TL.spl y.cps.toList 0 [] _ = _
  rw [ey]
theorem join_split (x : Str) : Str.join y (Txt.split x y) = x := TL.ext_tl (by
  rw [TL.tl_join, split_tl ey hs]
  show TL.joinL y.cps.toList _ = _
  rw [ey, spl_join1]
  rfl)
theorem split_some (x : Str) : Txt.split x y ≠ [] := fun e => by
  have := split_tl ey hs x
  rw [e] at this
  exact spl_ne s _ _ this.symm
theorem split_mem {x z : Str} (h : z ∈ Txt.split x y) : (∀ c ∈ z.cps.toList, c ∈ x.cps.toList) ∧ s ∉ z.cps.toList := by
  have := List.mem_map_of_mem (f := TL.tl) h
  rw [split_tl ey hs] at this
  obtain ⟨h1, h2⟩ := spl_mem1 s _ _ _ this
  exact ⟨fun c hc => (h1 c hc).elim (fun z => nomatch z) id, h2 fun z => nomatch z⟩
end
/-! ### how long -/
def wt (l : List Str) : Nat := (l.map fun z => z.length + 1).sum
theorem wt_nil : wt [] = 0 := rfl
theorem wt_cons (a : Str) (l : List Str) : wt (a :: l) = a.length + 1 + wt l := by unfold wt; rw [List.map_cons, List.sum_cons]
theorem wt_app : ∀ (l m : List Str), wt (l ++ m) = wt l + wt m
  | [], m => by rw [List.nil_append, wt_nil, Nat.zero_add]
  | a :: l, m => by rw [List.cons_append, wt_cons, wt_cons, wt_app l m]; omega
theorem wt_take (l : List Str) (i : Nat) : wt (l.take i) ≤ wt l := by
  have := wt_app (l.take i) (l.drop i)
  rw [List.take_append_drop] at this
  omega
theorem wt_drop (l : List Str) (i : Nat) : wt (l.drop i) ≤ wt l := by
  have := wt_app (l.take i) (l.drop i)
  rw [List.take_append_drop] at this
  omega
theorem wt_len : ∀ l : List Str, l.length ≤ wt l
  | [] => Nat.le_refl _
  | a :: l => by have := wt_len l; rw [wt_cons, List.length_cons]; omega
theorem wt_mem {z : Str} : ∀ {l : List Str}, z ∈ l → z.length + 1 ≤ wt l
  | a :: l, h => by
    rw [wt_cons]
    rcases List.mem_cons.mp h with rfl | h
    · omega
    · have := wt_mem h; omega
theorem wt_cut (l : List Str) (lo hi : Option Int) : wt (cutD l lo hi) ≤ wt l := Nat.le_trans (wt_take _ _) (wt_drop _ _)
theorem join_wt {y : Str} (hy : y.length = 1) : ∀ {l : List Str}, l ≠ [] → (Str.join y l).length + 1 = wt l
  | [], h => absurd rfl h
  | [a], _ => by rw [wt_cons, wt_nil]; rfl
  | a :: b :: l, _ => by
    have ih := join_wt hy (l := b :: l) (by simp)
    rw [wt_cons]
    show (a ++ y ++ Str.join y (b :: l)).length + 1 = _
    rw [strLen_append, strLen_append, hy]
    omega
theorem join_lew {y : Str} (hy : y.length = 1) (l : List Str) : (Str.join y l).length ≤ wt l := by
  by_cases h : l = []
  · subst h; exact Nat.zero_le _
  · have := join_wt hy h; omega
theorem split_wt {y : Str} {s : Nat} (ey : y.cps.toList = [s]) (hs : s < 256) (x : Str) : wt (Txt.split x y) = x.length + 1 := by
  have hy : y.length = 1 := by rw [← t_len, ey]; rfl
  rw [← join_wt hy (split_some ey hs x), join_split ey hs]
theorem join_pre {y : Str} (hy : y.length = 1) (zs : List Str) : (zs.map (·.length)).sum + zs.length * y.length = wt zs := by
  rw [hy, Nat.mul_one]
  induction zs with
  | nil => rfl
  | cons a r ih => rw [List.map_cons, List.sum_cons, List.length_cons, wt_cons, ← ih]; omega
/-! ### words that write numbers -/
def nok (l : List Nat) : Bool := !l.isEmpty && ((l.all fun c => decide (48 ≤ c) && decide (c ≤ 57)) && (l == [48] || l.head? != some 48))
def nv (w : Str) : Option Int := if nok w.cps.toList = true then some ((NumText.digitsVal w.cps.toList : Nat) : Int) else none
theorem all_dig {l : List Nat} (h : (l.all fun c => decide (48 ≤ c) && decide (c ≤ 57)) = true) : NumText.AllDigits l := fun c hc => by
  have := List.all_eq_true.mp h c hc
  rw [Bool.and_eq_true] at this
  exact ⟨of_decide_eq_true this.1, of_decide_eq_true this.2⟩
theorem dv_snoc (l : List Nat) (c : Nat) : NumText.digitsVal (l ++ [c]) = NumText.digitsVal l * 10 + (c - 48) := by
  unfold NumText.digitsVal
  rw [List.foldl_append]
  rfl
theorem dv_lt (l : List Nat) (h : NumText.AllDigits l) : NumText.digitsVal l < 10 ^ l.length := by
  generalize hn : l.length = n
  induction n generalizing l with
  | zero =>
    rw [List.eq_nil_of_length_eq_zero hn]
    decide
  | succ n ih =>
    have ne : l ≠ [] := fun e => by rw [e] at hn; cases hn
    obtain ⟨l', c, rfl⟩ : ∃ l' c, l = l' ++ [c] := ⟨_, _, (List.dropLast_concat_getLast ne).symm⟩
    rw [List.length_append, List.length_singleton] at hn
    have i := ih l' (fun d hd => h d (List.mem_append_left _ hd)) (by omega)
    have hc := h c (List.mem_append_right _ List.mem_cons_self)
    rw [dv_snoc, Nat.pow_succ]
    omega
theorem numL_of (l : List Nat) (ne : l ≠ []) (h : NumText.AllDigits l) (hz : l = [48] ∨ l.head? ≠ some 48) : TL.numL (NumText.digitsVal l) = l ∧ (l ≠ [48] → 0 < NumText.digitsVal l) := by
  generalize hn : l.length = n
  induction n generalizing l with
  | zero => exact absurd (List.eq_nil_of_length_eq_zero hn) ne
  | succ n ih =>
    obtain ⟨l', c, rfl⟩ : ∃ l' c, l = l' ++ [c] := ⟨_, _, (List.dropLast_concat_getLast ne).symm⟩
    have hc := h c (List.mem_append_right _ List.mem_cons_self)
    rw [dv_snoc]
    by_cases e : l' = []
    · subst e
      have e0 : NumText.digitsVal [] = 0 := rfl
      rw [e0, Nat.zero_mul, Nat.zero_add, TL.numL_lt (by omega)]
      refine ⟨by rw [List.nil_append, show 48 + (c - 48) = c by omega], fun q => ?_⟩
      have : c ≠ 48 := fun z => q (by rw [z]; rfl)
      omega
    · have hz' : l'.head? ≠ some 48 := by
        rcases hz with z | z
        · have h9 := congrArg List.length z
          rw [List.length_append] at h9
          have h8 : l'.length = 0 := by
            rw [List.length_singleton, List.length_singleton] at h9
            omega
          exact absurd (List.eq_nil_of_length_eq_zero h8) e
        · cases l' with
          | nil => exact absurd rfl e
          | cons a r => exact z
      rw [List.length_append, List.length_singleton] at hn
      obtain ⟨i1, i2⟩ := ih l' e (fun d hd => h d (List.mem_append_left _ hd)) (.inr hz') (by omega)
      have pos := i2 fun z => hz' (by rw [z]; rfl)
      refine ⟨?_, fun _ => by omega⟩
      rw [TL.numL_step (by omega)]
      have d1 : (NumText.digitsVal l' * 10 + (c - 48)) / 10 = NumText.digitsVal l' := by omega
      have d2 : (NumText.digitsVal l' * 10 + (c - 48)) % 10 = c - 48 := by omega
      rw [d1, d2, i1, show 48 + (c - 48) = c by omega]
theorem nok_of {l : List Nat} (h : nok l = true) : l ≠ [] ∧ NumText.AllDigits l ∧ (l = [48] ∨ l.head? ≠ some 48) := by
  unfold nok at h
  rw [Bool.and_eq_true, Bool.and_eq_true, Bool.or_eq_true] at h
  obtain ⟨h1, h2, h3⟩ := h
  refine ⟨(fun e => by rw [e] at h1; cases h1), all_dig h2, h3.imp (fun z => by simpa using z) fun z => by simpa using z⟩
theorem nv_num {w : Str} {i : Int} (h : nv w = some i) : 0 ≤ i ∧ num i = w := by
  unfold nv at h
  split at h
  · rename_i q
    cases h
    obtain ⟨h1, h2, h3⟩ := nok_of q
    refine ⟨Int.natCast_nonneg _, TL.ext_tl ?_⟩
    show (num _).cps.toList = _
    rw [num_tl (Int.natCast_nonneg _)]
    exact (numL_of _ h1 h2 h3).1
  · cases h
theorem nv_int {w : Str} {i : Int} (h : nv w = some i) (hl : w.length ≤ 4300) : intText? w = some i := by
  obtain ⟨h1, h2⟩ := nv_num h
  have := num_back h1 (by rw [h2]; exact hl)
  rw [h2] at this
  exact this
end DL

set_option Elab.async false
set_option linter.all false
set_option maxRecDepth 100000
set_option maxHeartbeats 4000000
namespace L_k04
open PySem L2 DL
def top (i : Nat) : Stmt := PySem.Challenge.pw_sureatlast_k04_books_of_any_value.main.body.getD i (.Pass ⟨0, 0, 0, 0⟩)
def mtop (i j : Nat) : Stmt := match top i with
  | .ClassDef _ _ _ body _ _ _ _ _ _ _ => body.getD j (.Pass ⟨0, 0, 0, 0⟩)
  | s => s
/-! _law_draw: 0 deck, 1 many, 2 turn, 3 figure, 4 first -/
def N0 : List Str := [(Str.ofString "deck"), (Str.ofString "many"), (Str.ofString "turn"), (Str.ofString "figure"), (Str.ofString "first")]
def b0 : KZs := (.cons (.incr (.add .cc (.c 1))) (.cons (.par 2 3 .cc .cb) (.cons (.ifl (.cons (.pop 4) (.cons (.ifge (.v 4) (.pow 10 18) (.cons (.push (.fdiv (.v 4) (.v 1))) (.cons (.ret (.mod (.int (.v 4)) (.v 1))) .nil))) (.cons (.asg 3 (.add (.v 3) (.int (.v 4)))) .nil)))) (.cons (.asg 3 (.mod (.mul (.int (.add (.add (.mod (.int (.v 3)) (.c 2147483629)) (.mul (.mul (.c 54631) (.v 2)) (.v 2))) (.c 7))) (.c 40692)) (.c 2147483647))) (.cons (.asg 3 (.mod (.int (.add (.add (.mul (.v 3) (.v 3)) (.mul (.c 30341) (.v 2))) (.c 19))) (.c 2147483587))) (.cons (.ret (.mod (.fdiv (.mod (.int (.mul (.v 3) (.c 69621))) (.c 2147483563)) (.c 64)) (.v 1))) .nil))))))
/-! _law_pick: 0 deck, 1 some -/
def N1 : List Str := [(Str.ofString "deck"), (Str.ofString "some")]
def b1 : Ss := (.cons (.ret (.ix (.var 1) (.call 0 (.cons (.var 0) (.cons (.blt "len" (.cons (.var 1) .nil)) .nil))))) .nil)
/-! _law_parts: 0 deck, 1 letters, 2 rows, 3 many, 4 width, 5 grid, 6 state, 7 k -/
def N2 : List Str := [(Str.ofString "deck"), (Str.ofString "letters"), (Str.ofString "rows"), (Str.ofString "many"), (Str.ofString "width"), (Str.ofString "grid"), (Str.ofString "state"), (Str.ofString "k")]
def b2 : Ss := (.cons (.par [1, 2] (.cons (.call 1 (.cons (.var 0) (.cons (.lst (.cons (.str (Str.ofString "a")) (.cons (.str (Str.ofString "ab")) (.cons (.str (Str.ofString "z")) (.cons (.str (Str.ofString "cx")) .nil))))) .nil))) (.cons (.call 1 (.cons (.var 0) (.cons (.lst (.cons (.str (Str.ofString "x")) (.cons (.str (Str.ofString "xy")) (.cons (.str (Str.ofString "a")) (.cons (.str (Str.ofString "ab")) .nil))))) .nil))) .nil))) (.cons (.asg (.tp [(.nm 3), (.nm 4)]) (.tup (.cons (.bin .Add (.int 1) (.call 0 (.cons (.var 0) (.cons (.int 4) .nil)))) (.cons (.bin .Sub (.bin .Mult (.bin .Add (.blt "len" (.cons (.var 1) .nil)) (.int 1)) (.bin .Add (.blt "len" (.cons (.var 2) .nil)) (.int 1))) (.int 1)) .nil)))) (.cons (.asg (.nm 5) (.blt "tuple" (.cons (.lc (.blt "tuple" (.cons (.lc (.call 0 (.cons (.var 0) (.cons (.var 3) .nil))) (.nm 7) (.rng (.var 4)) (.bl true) [((Str.ofString "k"), 7)]) .nil)) (.nm 6) (.rng (.var 3)) (.bl true) [((Str.ofString "state"), 6)]) .nil))) (.cons (.ret (.lst (.cons (.var 1) (.cons (.var 2) (.cons (.var 5) (.cons (.blt "tuple" (.cons (.lc (.var 6) (.nm 6) (.rng (.var 3)) (.cmp .Eq (.call 0 (.cons (.var 0) (.cons (.int 2) .nil))) (.int 0)) [((Str.ofString "state"), 6)]) .nil)) .nil)))))) .nil))))
/-! _law_bent_row: 0 deck, 1 row, 2 many, 3 at, 4 odd, 5 some -/
def N3 : List Str := [(Str.ofString "deck"), (Str.ofString "row"), (Str.ofString "many"), (Str.ofString "at"), (Str.ofString "odd"), (Str.ofString "some")]
def b3 : Ss := (.cons (.asg (.nm 3) (.call 0 (.cons (.var 0) (.cons (.blt "len" (.cons (.var 1) .nil)) .nil)))) (.cons (.asg (.nm 4) (.call 1 (.cons (.var 0) (.cons (.lst (.cons (.var 2) (.cons (.neg (.int 1)) (.cons (.bl true) (.cons (.bl false) (.cons .non (.cons (.str (Str.ofString "0")) (.cons (.bin .Pow (.int 10) (.int 39)) (.cons (.tup (.cons (.int 0) .nil)) .nil))))))))) .nil)))) (.cons (.asg (.nm 5) (.lst (.cons (.blt "list" (.cons (.var 1) .nil)) (.cons (.slU (.var 1) (.var 3)) (.cons (.bin .Add (.var 1) (.slU (.var 1) (.int 1))) (.cons (.bin .Add (.bin .Add (.slU (.var 1) (.var 3)) (.tup (.cons (.var 4) .nil))) (.slL (.var 1) (.bin .Add (.var 3) (.int 1)))) (.cons (.bin .Mult (.str (Str.ofString "0")) (.blt "len" (.cons (.var 1) .nil))) (.cons .non (.cons (.int 7) .nil))))))))) (.cons (.ret (.ix (.var 5) (.call 1 (.cons (.var 0) (.cons (.lst (.cons (.int 0) (.cons (.int 1) (.cons (.int 2) (.cons (.int 3) (.cons (.int 3) (.cons (.int 3) (.cons (.int 4) (.cons (.int 5) (.cons (.int 6) .nil)))))))))) .nil))))) .nil))))
/-! _law_bent: 0 deck, 1 parts, 2 letters, 3 rows, 4 grid, 5 good, 6 kind, 7 at, 8 many, 9 some -/
def N4 : List Str := [(Str.ofString "deck"), (Str.ofString "parts"), (Str.ofString "letters"), (Str.ofString "rows"), (Str.ofString "grid"), (Str.ofString "good"), (Str.ofString "kind"), (Str.ofString "at"), (Str.ofString "many"), (Str.ofString "some")]
def b4 : Ss := (.cons (.asg (.tp [(.nm 2), (.nm 3), (.nm 4), (.nm 5)]) (.var 1)) (.cons (.asg (.nm 6) (.call 0 (.cons (.var 0) (.cons (.int 5) .nil)))) (.cons (.ite (.cmp .Eq (.var 6) (.int 0)) (.cons (.asg (.nm 2) (.call 1 (.cons (.var 0) (.cons (.lst (.cons (.str (Str.ofString "")) (.cons (.str (Str.ofString "ba")) (.cons (.str (Str.ofString "aa")) (.cons (.str (Str.ofString "abc")) (.cons (.str (Str.ofString "A")) (.cons (.str (Str.ofString "a-")) (.cons .non (.cons (.tup (.cons (.str (Str.ofString "a")) .nil)) (.cons (.lst (.cons (.str (Str.ofString "a")) .nil)) (.cons (.int 1) .nil))))))))))) .nil)))) .nil) .nil) (.cons (.ite (.cmp .Eq (.var 6) (.int 1)) (.cons (.asg (.nm 3) (.call 1 (.cons (.var 0) (.cons (.lst (.cons (.str (Str.ofString "")) (.cons (.str (Str.ofString "yx")) (.cons (.str (Str.ofString "xx")) (.cons (.str (Str.ofString "xyz")) (.cons (.str (Str.ofString "X")) (.cons (.str (Str.ofString " x")) (.cons .non (.cons (.tup (.cons (.str (Str.ofString "x")) (.cons (.str (Str.ofString "y")) .nil))) (.cons (.bl true) .nil)))))))))) .nil)))) .nil) .nil) (.cons (.ite (.and (.cmp .Eq (.var 6) (.int 2)) (.isi (.var 4) "tuple")) (.cons (.asg (.nm 4) (.call 1 (.cons (.var 0) (.cons (.lst (.cons (.blt "list" (.cons (.var 4) .nil)) (.cons (.tup .nil) (.cons .non (.cons (.str (Str.ofString "table")) (.cons .dct0 (.cons (.bin .Add (.slU (.var 4) (.int 1)) (.tup (.cons (.lst (.cons (.int 0) .nil)) .nil))) (.cons (.bin .Add (.var 4) (.tup (.cons .non .nil))) .nil)))))))) .nil)))) .nil) .nil) (.cons (.ite (.and (.cmp .Eq (.var 6) (.int 3)) (.and (.isi (.var 4) "tuple") (.and (.cmp .NotEq (.var 4) (.tup .nil)) (.and (.isi (.ix (.var 4) (.neg (.int 1))) "tuple") (.cmp .NotEq (.ix (.var 4) (.neg (.int 1))) (.tup .nil)))))) (.cons (.asg (.nm 7) (.call 0 (.cons (.var 0) (.cons (.blt "len" (.cons (.var 4) .nil)) .nil)))) (.cons (.ite (.and (.isi (.ix (.var 4) (.var 7)) "tuple") (.cmp .NotEq (.ix (.var 4) (.var 7)) (.tup .nil))) (.cons (.asg (.nm 4) (.bin .Add (.bin .Add (.slU (.var 4) (.var 7)) (.tup (.cons (.call 3 (.cons (.var 0) (.cons (.ix (.var 4) (.var 7)) (.cons (.blt "len" (.cons (.var 4) .nil)) .nil)))) .nil))) (.slL (.var 4) (.bin .Add (.var 7) (.int 1))))) .nil) .nil) .nil)) .nil) (.cons (.ite (.cmp .Eq (.var 6) (.int 4)) (.cons (.asg (.nm 8) (.ite (.isi (.var 4) "tuple") (.blt "len" (.cons (.var 4) .nil)) (.int 1))) (.cons (.asg (.nm 9) (.lst (.cons (.lstR (.var 8)) (.cons (.tup (.cons (.var 8) .nil)) (.cons (.tup (.cons (.int 0) (.cons (.int 0) .nil))) (.cons (.tup (.cons (.neg (.int 1)) .nil)) (.cons (.tup (.cons (.bl true) .nil)) (.cons (.tup (.cons (.int 0) (.cons (.str (Str.ofString "1")) .nil))) (.cons .non (.cons .dct0 (.cons (.str (Str.ofString "0")) (.cons (.tup (.cons (.bin .Sub (.var 8) (.int 1)) (.cons (.int 0) .nil))) .nil)))))))))))) (.cons (.asg (.nm 5) (.call 1 (.cons (.var 0) (.cons (.var 9) .nil)))) .nil))) .nil) (.cons (.ret (.lst (.cons (.var 2) (.cons (.var 3) (.cons (.var 4) (.cons (.var 5) .nil)))))) .nil))))))))
/-! _law_is_alphabet: 0 thing, 1 sign -/
def N5 : List Str := [(Str.ofString "thing"), (Str.ofString "sign")]
def b5 : Ss := (.cons (.ite (.or (.not (.isi (.var 0) "str")) (.not (.cmp2 .Lt .Lt (.int 0) (.blt "len" (.cons (.var 0) .nil)) (.int 3)))) (.cons (.ret (.bl false)) .nil) .nil) (.cons (.ret (.and (.cmp .Eq (.lc (.var 1) (.nm 1) (.ov (.var 0)) (.not (.cmp2 .LtE .LtE (.str (Str.ofString "a")) (.var 1) (.str (Str.ofString "z")))) [((Str.ofString "sign"), 1)]) (.lst .nil)) (.or (.cmp .Eq (.blt "len" (.cons (.var 0) .nil)) (.int 1)) (.cmp .Lt (.ix (.var 0) (.int 0)) (.ix (.var 0) (.int 1)))))) .nil))
/-! _law_is_state: 0 many, 1 thing -/
def N6 : List Str := [(Str.ofString "many"), (Str.ofString "thing")]
def b6 : Ss := (.cons (.ret (.and (.isi (.var 1) "int") (.and (.not (.isi (.var 1) "bool")) (.and (.cmp .LtE (.int 0) (.var 1)) (.cmp .Lt (.var 1) (.var 0)))))) .nil)
/-! _law_due: 0 parts, 1 letters, 2 rows, 3 grid, 4 good, 5 width, 6 row, 7 is_ascending, 8 state, 9 one, 10 two -/
def N7 : List Str := [(Str.ofString "parts"), (Str.ofString "letters"), (Str.ofString "rows"), (Str.ofString "grid"), (Str.ofString "good"), (Str.ofString "width"), (Str.ofString "row"), (Str.ofString "is_ascending"), (Str.ofString "state"), (Str.ofString "one"), (Str.ofString "two")]
def b7 : Ss := (.cons (.asg (.tp [(.nm 1), (.nm 2), (.nm 3), (.nm 4)]) (.var 0)) (.cons (.ite (.or (.not (.call 5 (.cons (.var 1) .nil))) (.not (.call 5 (.cons (.var 2) .nil)))) (.cons (.ret (.ite (.call 5 (.cons (.var 1) .nil)) (.lst (.cons (.str (Str.ofString "rows")) .nil)) (.lst (.cons (.str (Str.ofString "settings")) .nil)))) .nil) .nil) (.cons (.ite (.or (.not (.isi (.var 3) "tuple")) (.or (.cmp .Eq (.var 3) (.tup .nil)) (.cmp .NotEq (.lc (.var 6) (.nm 6) (.ov (.var 3)) (.not (.isi (.var 6) "tuple")) [((Str.ofString "row"), 6)]) (.lst .nil)))) (.cons (.ret (.lst (.cons (.str (Str.ofString "table")) .nil))) .nil) .nil) (.cons (.asg (.nm 5) (.bin .Sub (.bin .Mult (.bin .Add (.blt "len" (.cons (.var 1) .nil)) (.int 1)) (.bin .Add (.blt "len" (.cons (.var 2) .nil)) (.int 1))) (.int 1))) (.cons (.for (.nm 6) (.ov (.var 3)) (.cons (.ite (.or (.cmp .NotEq (.blt "len" (.cons (.var 6) .nil)) (.var 5)) (.cmp .NotEq (.lc (.int 1) (.nm 8) (.ov (.var 6)) (.not (.call 6 (.cons (.blt "len" (.cons (.var 3) .nil)) (.cons (.var 8) .nil)))) [((Str.ofString "state"), 8)]) (.lst .nil))) (.cons (.ret (.lst (.cons (.var 6) .nil))) .nil) .nil) .nil)) (.cons (.ite (.or (.not (.isi (.var 4) "tuple")) (.cmp .NotEq (.lc (.int 1) (.nm 9) (.ov (.var 4)) (.not (.call 6 (.cons (.blt "len" (.cons (.var 3) .nil)) (.cons (.var 9) .nil)))) [((Str.ofString "one"), 9)]) (.lst .nil))) (.cons (.ret (.lst (.cons (.str (Str.ofString "accepting")) .nil))) .nil) .nil) (.cons (.asg (.nm 7) (.cmp .Eq (.lc (.int 1) (.tp [(.nm 9), (.nm 10)]) (.zip (.var 4) (.slL (.var 4) (.int 1))) (.not (.cmp .Lt (.var 9) (.var 10))) [((Str.ofString "one"), 9), ((Str.ofString "two"), 10)]) (.lst .nil))) (.cons (.ret (.ite (.var 7) (.lst .nil) (.lst (.cons (.str (Str.ofString "accepting")) .nil)))) .nil))))))))
/-! has_double: 0 text, 1 one, 2 other -/
def N8 : List Str := [(Str.ofString "text"), (Str.ofString "one"), (Str.ofString "other")]
def b8 : Ss := (.cons (.ret (.blt "any" (.cons (.lc (.cmp .Eq (.var 1) (.var 2)) (.tp [(.nm 1), (.nm 2)]) (.zip (.var 0) (.slL (.var 0) (.int 1))) (.bl true) [((Str.ofString "one"), 1), ((Str.ofString "other"), 2)]) .nil))) .nil)
/-! is_alphabet: 0 thing, 1 letter -/
def N9 : List Str := [(Str.ofString "thing"), (Str.ofString "letter")]
def b9 : Ss := (.cons (.ite (.or (.not (.isi (.var 0) "str")) (.not (.cmp2 .LtE .LtE (.int 1) (.blt "len" (.cons (.var 0) .nil)) (.glb 0)))) (.cons (.ret (.bl false)) .nil) .nil) (.cons (.ret (.and (.blt "all" (.cons (.lc (.cmp .In (.var 1) (.glb 1)) (.nm 1) (.ov (.var 0)) (.bl true) [((Str.ofString "letter"), 1)]) .nil)) (.and (.cmp .LtE (.ix (.var 0) (.int 0)) (.ix (.var 0) (.neg (.int 1)))) (.not (.call 8 (.cons (.var 0) .nil)))))) .nil))
/-! BadBook: 0 self, 1 part -/
def N10 : List Str := [(Str.ofString "self"), (Str.ofString "part")]
def b10 : Ss := .nil
/-! is_state: 0 many, 1 thing -/
def N11 : List Str := [(Str.ofString "many"), (Str.ofString "thing")]
def b11 : Ss := (.cons (.ret (.and (.isi (.var 1) "int") (.and (.not (.isi (.var 1) "bool")) (.cmp2 .LtE .Lt (.int 0) (.var 1) (.var 0))))) .nil)
/-! is_row_of: 0 many, 1 width, 2 row, 3 state -/
def N12 : List Str := [(Str.ofString "many"), (Str.ofString "width"), (Str.ofString "row"), (Str.ofString "state")]
def b12 : Ss := (.cons (.ret (.and (.cmp .Eq (.blt "len" (.cons (.var 2) .nil)) (.var 1)) (.blt "all" (.cons (.lc (.call 11 (.cons (.var 0) (.cons (.var 3) .nil))) (.nm 3) (.ov (.var 2)) (.bl true) [((Str.ofString "state"), 3)]) .nil)))) .nil)
/-! check_table: 0 width, 1 table, 2 row -/
def N13 : List Str := [(Str.ofString "width"), (Str.ofString "table"), (Str.ofString "row")]
def b13 : Ss := (.cons (.ite (.or (.not (.isi (.var 1) "tuple")) (.or (.cmp .Eq (.var 1) (.tup .nil)) (.not (.blt "all" (.cons (.lc (.isi (.var 2) "tuple") (.nm 2) (.ov (.var 1)) (.bl true) [((Str.ofString "row"), 2)]) .nil))))) (.cons (.raise 0 10 (.cons (.str (Str.ofString "table")) .nil)) .nil) .nil) (.cons (.for (.nm 2) (.ov (.var 1)) (.cons (.ite (.not (.call 12 (.cons (.blt "len" (.cons (.var 1) .nil)) (.cons (.var 0) (.cons (.var 2) .nil))))) (.cons (.raise 0 10 (.cons (.var 2) .nil)) .nil) .nil) .nil)) .nil))
/-! are_ascending_states: 0 many, 1 thing, 2 state, 3 one, 4 other -/
def N14 : List Str := [(Str.ofString "many"), (Str.ofString "thing"), (Str.ofString "state"), (Str.ofString "one"), (Str.ofString "other")]
def b14 : Ss := (.cons (.ite (.or (.not (.isi (.var 1) "tuple")) (.not (.blt "all" (.cons (.lc (.call 11 (.cons (.var 0) (.cons (.var 2) .nil))) (.nm 2) (.ov (.var 1)) (.bl true) [((Str.ofString "state"), 2)]) .nil)))) (.cons (.ret (.bl false)) .nil) .nil) (.cons (.ret (.blt "all" (.cons (.lc (.cmp .Lt (.var 3) (.var 4)) (.tp [(.nm 3), (.nm 4)]) (.zip (.var 1) (.slL (.var 1) (.int 1))) (.bl true) [((Str.ofString "one"), 3), ((Str.ofString "other"), 4)]) .nil))) .nil))
/-! Book: 0 self, 1 setting_letters, 2 row_letters, 3 table, 4 accepting -/
def N15 : List Str := [(Str.ofString "self"), (Str.ofString "setting_letters"), (Str.ofString "row_letters"), (Str.ofString "table"), (Str.ofString "accepting")]
def b15 : Ss := (.cons (.ite (.not (.call 9 (.cons (.var 1) .nil))) (.cons (.raise 0 10 (.cons (.str (Str.ofString "settings")) .nil)) .nil) .nil) (.cons (.ite (.not (.call 9 (.cons (.var 2) .nil))) (.cons (.raise 0 10 (.cons (.str (Str.ofString "rows")) .nil)) .nil) .nil) (.cons (.exp (.call 13 (.cons (.bin .Sub (.bin .Mult (.bin .Add (.blt "len" (.cons (.var 1) .nil)) (.int 1)) (.bin .Add (.blt "len" (.cons (.var 2) .nil)) (.int 1))) (.int 1)) (.cons (.var 3) .nil)))) (.cons (.ite (.not (.call 14 (.cons (.blt "len" (.cons (.var 3) .nil)) (.cons (.var 4) .nil)))) (.cons (.raise 0 10 (.cons (.str (Str.ofString "accepting")) .nil)) .nil) .nil) .nil))))
/-! Book.__len__: 0 self -/
def N16 : List Str := [(Str.ofString "self")]
def b16 : Ss := (.cons (.ret (.blt "len" (.cons (.fld (.var 0) 0 2) .nil))) .nil)
/-! _law_made: 0 parts, 1 by_name, 2 letters, 3 rows, 4 grid, 5 good, 6 found, 7 it, 8 e -/
def N17 : List Str := [(Str.ofString "parts"), (Str.ofString "by_name"), (Str.ofString "letters"), (Str.ofString "rows"), (Str.ofString "grid"), (Str.ofString "good"), (Str.ofString "found"), (Str.ofString "it"), (Str.ofString "e")]
def b17 : Ss := (.cons (.asg (.tp [(.nm 2), (.nm 3), (.nm 4), (.nm 5)]) (.var 0)) (.cons (.asg (.nm 6) .non) (.cons (.try1 (.cons (.ite (.var 1) (.cons (.asg (.nm 7) (.newk 0 0 (.cons (.var 5) (.cons (.var 4) (.cons (.var 3) (.cons (.var 2) .nil)))))) .nil) (.cons (.asg (.nm 7) (.appn 0 15 (.cons (.var 2) (.cons (.var 3) (.cons (.var 4) (.cons (.var 5) .nil)))))) .nil)) (.cons (.asg (.nm 6) (.lst (.cons (.str (Str.ofString "made")) (.cons (.fld (.var 7) 0 0) (.cons (.fld (.var 7) 0 1) (.cons (.fld (.var 7) 0 2) (.cons (.fld (.var 7) 0 3) (.cons (.lenm 0 16 (.var 7)) .nil)))))))) .nil)) 0 (some 8) 6 (.lst (.cons (.str (Str.ofString "bad")) (.cons (.fld 0) .nil)))) (.cons (.ret (.var 6)) .nil))))
/-! is_word: 0 alphabet, 1 thing, 2 letter -/
def N18 : List Str := [(Str.ofString "alphabet"), (Str.ofString "thing"), (Str.ofString "letter")]
def b18 : Ss := (.cons (.ret (.and (.isi (.var 1) "str") (.blt "all" (.cons (.lc (.cmp .In (.var 2) (.var 0)) (.nm 2) (.ov (.var 1)) (.bl true) [((Str.ofString "letter"), 2)]) .nil)))) .nil)
/-! BadWord: 0 self, 1 word -/
def N19 : List Str := [(Str.ofString "self"), (Str.ofString "word")]
def b19 : Ss := .nil
/-! Filter: 0 self, 1 book, 2 setting -/
def N20 : List Str := [(Str.ofString "self"), (Str.ofString "book"), (Str.ofString "setting")]
def b20 : Ss := .nil
/-! Book.__getitem__: 0 self, 1 setting -/
def N21 : List Str := [(Str.ofString "self"), (Str.ofString "setting")]
def b21 : Ss := (.cons (.ite (.not (.call 18 (.cons (.fld (.var 0) 0 0) (.cons (.var 1) .nil)))) (.cons (.raise 1 19 (.cons (.var 1) .nil)) .nil) .nil) (.cons (.ret (.appn 1 20 (.cons (.var 0) (.cons (.var 1) .nil)))) .nil))
/-! Book.__eq__: 0 self, 1 other, 2 mine -/
def N22 : List Str := [(Str.ofString "self"), (Str.ofString "other"), (Str.ofString "mine")]
def b22 : Ss := (.cons (.ite (.not (.isc 0 (.var 1))) (.cons (.ret (.bl false)) .nil) .nil) (.cons (.asg (.nm 2) (.tup (.cons (.fld (.var 0) 0 0) (.cons (.fld (.var 0) 0 1) (.cons (.fld (.var 0) 0 2) (.cons (.fld (.var 0) 0 3) .nil)))))) (.cons (.ret (.cmp .Eq (.var 2) (.tup (.cons (.fld (.var 1) 0 0) (.cons (.fld (.var 1) 0 1) (.cons (.fld (.var 1) 0 2) (.cons (.fld (.var 1) 0 3) .nil))))))) .nil)))
/-! _law_filter_of: 0 book, 1 word, 2 found, 3 told, 4 e -/
def N23 : List Str := [(Str.ofString "book"), (Str.ofString "word"), (Str.ofString "found"), (Str.ofString "told"), (Str.ofString "e")]
def b23 : Ss := (.cons (.asg (.nm 2) .non) (.cons (.try1 (.cons (.asg (.nm 3) (.apps 0 21 (.var 0) (.var 1))) (.cons (.asg (.nm 2) (.lst (.cons (.str (Str.ofString "filter")) (.cons (.fld (.var 3) 1 1) (.cons (.appq false 0 22 (.fld (.var 3) 1 0) (.var 0)) .nil))))) .nil)) 1 (some 4) 2 (.lst (.cons (.str (Str.ofString "no word")) (.cons (.fld 0) .nil)))) (.cons (.ret (.var 2)) .nil)))
/-! _law_filters_right: 0 deck, 1 parts, 2 book, 3 letters, 4 word, 5 thing, 6 k -/
def N24 : List Str := [(Str.ofString "deck"), (Str.ofString "parts"), (Str.ofString "book"), (Str.ofString "letters"), (Str.ofString "word"), (Str.ofString "thing"), (Str.ofString "k")]
def b24 : Ss := (.cons (.asg (.tp [(.nm 2), (.nm 3)]) (.tup (.cons (.appn 0 15 (.cons (.ix (.var 1) (.int 0)) (.cons (.ix (.var 1) (.int 1)) (.cons (.ix (.var 1) (.int 2)) (.cons (.ix (.var 1) (.int 3)) .nil))))) (.cons (.ix (.var 1) (.int 0)) .nil)))) (.cons (.asg (.nm 4) (.mth "str.join" (.str (Str.ofString "")) (.cons (.lc (.call 1 (.cons (.var 0) (.cons (.blt "list" (.cons (.var 3) .nil)) .nil))) (.nm 6) (.rng (.call 0 (.cons (.var 0) (.cons (.int 5) .nil)))) (.bl true) [((Str.ofString "k"), 6)]) .nil))) (.cons (.for (.nm 5) (.ov (.lst (.cons (.str (Str.ofString "")) (.cons (.var 4) (.cons (.bin .Add (.var 4) (.ix (.var 3) (.neg (.int 1)))) (.cons (.bin .Mult (.var 3) (.int 30)) (.cons (.slU (.bin .Mult (.var 3) (.int 60)) (.int 60)) .nil))))))) (.cons (.ite (.cmp .NotEq (.call 23 (.cons (.var 2) (.cons (.var 5) .nil))) (.lst (.cons (.str (Str.ofString "filter")) (.cons (.var 5) (.cons (.bl true) .nil))))) (.cons (.ret (.bl false)) .nil) .nil) .nil)) (.cons (.for (.nm 5) (.ov (.lst (.cons (.bin .Add (.var 4) (.str (Str.ofString "-"))) (.cons (.bin .Add (.var 4) (.str (Str.ofString "q"))) (.cons (.str (Str.ofString "A")) (.cons .non (.cons (.int 0) (.cons (.bl true) (.cons (.tup (.cons (.var 4) .nil)) (.cons (.blt "list" (.cons (.var 3) .nil)) (.cons .dct0 .nil))))))))))) (.cons (.ite (.cmp .NotEq (.blt "repr" (.cons (.call 23 (.cons (.var 2) (.cons (.var 5) .nil))) .nil)) (.blt "repr" (.cons (.lst (.cons (.str (Str.ofString "no word")) (.cons (.var 5) .nil))) .nil))) (.cons (.ret (.bl false)) .nil) .nil) .nil)) (.cons (.ret (.bl true)) .nil)))))
/-! _law_equal_right: 0 parts, 1 others, 2 one, 3 two, 4 same -/
def N25 : List Str := [(Str.ofString "parts"), (Str.ofString "others"), (Str.ofString "one"), (Str.ofString "two"), (Str.ofString "same")]
def b25 : Ss := (.cons (.par [2, 3] (.cons (.appn 0 15 (.cons (.ix (.var 0) (.int 0)) (.cons (.ix (.var 0) (.int 1)) (.cons (.ix (.var 0) (.int 2)) (.cons (.ix (.var 0) (.int 3)) .nil))))) (.cons (.appn 0 15 (.cons (.ix (.var 1) (.int 0)) (.cons (.ix (.var 1) (.int 1)) (.cons (.ix (.var 1) (.int 2)) (.cons (.ix (.var 1) (.int 3)) .nil))))) .nil))) (.cons (.asg (.nm 4) (.cmp .Eq (.var 0) (.var 1))) (.cons (.ret (.cmp .Eq (.lst (.cons (.appq false 0 22 (.var 2) (.var 3)) (.cons (.appq true 0 22 (.var 2) (.var 3)) (.cons (.appq false 0 22 (.var 3) (.var 2)) (.cons (.appe 0 22 (.var 2) (.ix (.var 0) (.int 2))) .nil))))) (.lst (.cons (.var 4) (.cons (.not (.var 4)) (.cons (.var 4) (.cons (.bl false) .nil))))))) .nil)))
/-! law: 0 script, 1 deck, 2 turn, 3 parts, 4 others, 5 bent, 6 some, 7 kept, 8 due, 9 told, 10 other, 11 state -/
def NL : List Str := [(Str.ofString "script"), (Str.ofString "deck"), (Str.ofString "turn"), (Str.ofString "parts"), (Str.ofString "others"), (Str.ofString "bent"), (Str.ofString "some"), (Str.ofString "kept"), (Str.ofString "due"), (Str.ofString "told"), (Str.ofString "other"), (Str.ofString "state")]
def bL : Ss := (.cons (.for (.nm 2) (.rng (.int 6)) (.cons (.asg (.tp [(.nm 3), (.nm 4)]) (.tup (.cons (.call 2 (.cons (.var 1) .nil)) (.cons (.call 2 (.cons (.var 1) .nil)) .nil)))) (.cons (.asg (.nm 5) (.call 4 (.cons (.var 1) (.cons (.var 3) .nil)))) (.cons (.for (.nm 6) (.ov (.lst (.cons (.var 3) (.cons (.var 5) (.cons (.call 4 (.cons (.var 1) (.cons (.var 5) .nil))) .nil))))) (.cons (.par [7, 8] (.cons (.blt "repr" (.cons (.var 6) .nil)) (.cons (.call 7 (.cons (.var 6) .nil)) .nil))) (.cons (.asg (.nm 9) (.ite (.cmp .Eq (.var 8) (.lst .nil)) (.bin .Add (.bin .Add (.lst (.cons (.str (Str.ofString "made")) .nil)) (.var 6)) (.lst (.cons (.blt "len" (.cons (.ix (.var 6) (.int 2)) .nil)) .nil))) (.bin .Add (.lst (.cons (.str (Str.ofString "bad")) .nil)) (.var 8)))) (.cons (.ite (.or (.cmp .NotEq (.blt "repr" (.cons (.call 17 (.cons (.var 6) (.cons (.cmp .Eq (.bin .Mod (.var 2) (.int 2)) (.int 0)) .nil))) .nil)) (.blt "repr" (.cons (.var 9) .nil))) (.cmp .NotEq (.blt "repr" (.cons (.var 6) .nil)) (.var 7))) (.cons (.ret (.bl false)) .nil) .nil) .nil)))) (.cons (.ite (.or (.not (.call 24 (.cons (.var 1) (.cons (.var 3) .nil)))) (.not (.call 25 (.cons (.var 3) (.cons (.var 4) .nil))))) (.cons (.ret (.bl false)) .nil) .nil) (.cons (.asg (.nm 10) (.bin .Add (.slU (.var 3) (.int 3)) (.lst (.cons (.blt "tuple" (.cons (.lc (.var 11) (.nm 11) (.rng (.blt "len" (.cons (.ix (.var 3) (.int 2)) .nil))) (.cmp .NotIn (.var 11) (.ix (.var 3) (.int 3))) [((Str.ofString "state"), 11)]) .nil)) .nil)))) (.cons (.ite (.or (.not (.call 25 (.cons (.var 3) (.cons (.blt "list" (.cons (.var 3) .nil)) .nil)))) (.not (.call 25 (.cons (.var 3) (.cons (.var 10) .nil))))) (.cons (.ret (.bl false)) .nil) .nil) .nil))))))) (.cons (.ret (.bl true)) .nil))
theorem w1 (Γ : Gm) (a0 a1 : D) (Q : D → Prop) (x : Xp) : wFn Γ N1 b1 [a0, a1] Q x = wSs Γ (xl x) b1 { nx := fun _ => Q .non, rt := Q } [some (false, a0), some (false, a1)] := rfl
theorem w2 (Γ : Gm) (a0 : D) (Q : D → Prop) (x : Xp) : wFn Γ N2 b2 [a0] Q x = wSs Γ (xl x) b2 { nx := fun _ => Q .non, rt := Q } [some (false, a0), none, none, none, none, none, none, none] := rfl
theorem w3 (Γ : Gm) (a0 a1 a2 : D) (Q : D → Prop) (x : Xp) : wFn Γ N3 b3 [a0, a1, a2] Q x = wSs Γ (xl x) b3 { nx := fun _ => Q .non, rt := Q } [some (false, a0), some (false, a1), some (false, a2), none, none, none] := rfl
theorem w4 (Γ : Gm) (a0 a1 : D) (Q : D → Prop) (x : Xp) : wFn Γ N4 b4 [a0, a1] Q x = wSs Γ (xl x) b4 { nx := fun _ => Q .non, rt := Q } [some (false, a0), some (false, a1), none, none, none, none, none, none, none, none] := rfl
theorem w5 (Γ : Gm) (a0 : D) (Q : D → Prop) (x : Xp) : wFn Γ N5 b5 [a0] Q x = wSs Γ (xl x) b5 { nx := fun _ => Q .non, rt := Q } [some (false, a0), none] := rfl
theorem w6 (Γ : Gm) (a0 a1 : D) (Q : D → Prop) (x : Xp) : wFn Γ N6 b6 [a0, a1] Q x = wSs Γ (xl x) b6 { nx := fun _ => Q .non, rt := Q } [some (false, a0), some (false, a1)] := rfl
theorem w7 (Γ : Gm) (a0 : D) (Q : D → Prop) (x : Xp) : wFn Γ N7 b7 [a0] Q x = wSs Γ (xl x) b7 { nx := fun _ => Q .non, rt := Q } [some (false, a0), none, none, none, none, none, none, none, none, none, none] := rfl
theorem w8 (Γ : Gm) (a0 : D) (Q : D → Prop) (x : Xp) : wFn Γ N8 b8 [a0] Q x = wSs Γ (xl x) b8 { nx := fun _ => Q .non, rt := Q } [some (false, a0), none, none] := rfl
theorem w9 (Γ : Gm) (a0 : D) (Q : D → Prop) (x : Xp) : wFn Γ N9 b9 [a0] Q x = wSs Γ (xl x) b9 { nx := fun _ => Q .non, rt := Q } [some (false, a0), none] := rfl
theorem w11 (Γ : Gm) (a0 a1 : D) (Q : D → Prop) (x : Xp) : wFn Γ N11 b11 [a0, a1] Q x = wSs Γ (xl x) b11 { nx := fun _ => Q .non, rt := Q } [some (false, a0), some (false, a1)] := rfl
theorem w12 (Γ : Gm) (a0 a1 a2 : D) (Q : D → Prop) (x : Xp) : wFn Γ N12 b12 [a0, a1, a2] Q x = wSs Γ (xl x) b12 { nx := fun _ => Q .non, rt := Q } [some (false, a0), some (false, a1), some (false, a2), none] := rfl
theorem w13 (Γ : Gm) (a0 a1 : D) (Q : D → Prop) (x : Xp) : wFn Γ N13 b13 [a0, a1] Q x = wSs Γ (xl x) b13 { nx := fun _ => Q .non, rt := Q } [some (false, a0), some (false, a1), none] := rfl
theorem w14 (Γ : Gm) (a0 a1 : D) (Q : D → Prop) (x : Xp) : wFn Γ N14 b14 [a0, a1] Q x = wSs Γ (xl x) b14 { nx := fun _ => Q .non, rt := Q } [some (false, a0), some (false, a1), none, none, none] := rfl
theorem w15 (Γ : Gm) (a0 a1 a2 a3 : D) (Q : D → Prop) (x : Xp) : wIn Γ 0 N15 b15 [1, 2, 3, 4] [a0, a1, a2, a3] Q x = ∀ i, wSs Γ (xl x) b15 { nx := fun ρ => ρ[0]? = some (some (false, .atom i)) ∧ ∃ es, [1, 2, 3, 4].map (fun j => ρ[j]?) = es.map (fun d => some (some (false, d))) ∧ Q (.obj 0 es), rt := fun _ => False } [some (false, .atom i), some (false, a0), some (false, a1), some (false, a2), some (false, a3)] := rfl
theorem w16 (Γ : Gm) (a0 : D) (Q : D → Prop) (x : Xp) : wFn Γ N16 b16 [a0] Q x = wSs Γ (xl x) b16 { nx := fun _ => Q .non, rt := Q } [some (false, a0)] := rfl
theorem w17 (Γ : Gm) (a0 a1 : D) (Q : D → Prop) (x : Xp) : wFn Γ N17 b17 [a0, a1] Q x = wSs Γ (xl x) b17 { nx := fun _ => Q .non, rt := Q } [some (false, a0), some (false, a1), none, none, none, none, none, none, none] := rfl
theorem w18 (Γ : Gm) (a0 a1 : D) (Q : D → Prop) (x : Xp) : wFn Γ N18 b18 [a0, a1] Q x = wSs Γ (xl x) b18 { nx := fun _ => Q .non, rt := Q } [some (false, a0), some (false, a1), none] := rfl
theorem w20 (Γ : Gm) (a0 a1 : D) (Q : D → Prop) (x : Xp) : wIn Γ 1 N20 b20 [1, 2] [a0, a1] Q x = ∀ i, wSs Γ (xl x) b20 { nx := fun ρ => ρ[0]? = some (some (false, .atom i)) ∧ ∃ es, [1, 2].map (fun j => ρ[j]?) = es.map (fun d => some (some (false, d))) ∧ Q (.obj 1 es), rt := fun _ => False } [some (false, .atom i), some (false, a0), some (false, a1)] := rfl
theorem w21 (Γ : Gm) (a0 a1 : D) (Q : D → Prop) (x : Xp) : wFn Γ N21 b21 [a0, a1] Q x = wSs Γ (xl x) b21 { nx := fun _ => Q .non, rt := Q } [some (false, a0), some (false, a1)] := rfl
theorem w22 (Γ : Gm) (a0 a1 : D) (Q : D → Prop) (x : Xp) : wFn Γ N22 b22 [a0, a1] Q x = wSs Γ (xl x) b22 { nx := fun _ => Q .non, rt := Q } [some (false, a0), some (false, a1), none] := rfl
theorem w23 (Γ : Gm) (a0 a1 : D) (Q : D → Prop) (x : Xp) : wFn Γ N23 b23 [a0, a1] Q x = wSs Γ (xl x) b23 { nx := fun _ => Q .non, rt := Q } [some (false, a0), some (false, a1), none, none, none] := rfl
theorem w24 (Γ : Gm) (a0 a1 : D) (Q : D → Prop) (x : Xp) : wFn Γ N24 b24 [a0, a1] Q x = wSs Γ (xl x) b24 { nx := fun _ => Q .non, rt := Q } [some (false, a0), some (false, a1), none, none, none, none, none] := rfl
theorem w25 (Γ : Gm) (a0 a1 : D) (Q : D → Prop) (x : Xp) : wFn Γ N25 b25 [a0, a1] Q x = wSs Γ (xl x) b25 { nx := fun _ => Q .non, rt := Q } [some (false, a0), some (false, a1), none, none, none] := rfl
def names : List Str := [(Str.ofString "_law_draw"), (Str.ofString "_law_pick"), (Str.ofString "_law_parts"), (Str.ofString "_law_bent_row"), (Str.ofString "_law_bent"), (Str.ofString "_law_is_alphabet"), (Str.ofString "_law_is_state"), (Str.ofString "_law_due"), (Str.ofString "has_double"), (Str.ofString "is_alphabet"), (Str.ofString "BadBook"), (Str.ofString "is_state"), (Str.ofString "is_row_of"), (Str.ofString "check_table"), (Str.ofString "are_ascending_states"), (Str.ofString "Book"), (Str.ofString "__len__"), (Str.ofString "_law_made"), (Str.ofString "is_word"), (Str.ofString "BadWord"), (Str.ofString "Filter"), (Str.ofString "__getitem__"), (Str.ofString "__eq__"), (Str.ofString "_law_filter_of"), (Str.ofString "_law_filters_right"), (Str.ofString "_law_equal_right")]
def ars : List Nat := [2, 2, 1, 3, 2, 1, 2, 1, 1, 1, 2, 2, 3, 2, 2, 4, 1, 2, 2, 2, 2, 2, 2, 2, 2, 2]
def fcs : List Nat := [1, 1, 85070591730234615875067023894796828675, 3, 9, 0, 0, 0, 0, 0, 0, 0, 0, 0, 0, 0, 0, 0, 0, 0, 0, 0, 0, 0, 9223372036854775809, 0]
def gnms : List Str := [(Str.ofString "MOST_LETTERS"), (Str.ofString "LETTERS")]
def gds : List D := [.int 2, .str (Str.ofString "abcdefghijklmnopqrstuvwxyz")]
def kss : List KS := [⟨15, 0, [(Str.ofString "accepting"), (Str.ofString "table"), (Str.ofString "row_letters"), (Str.ofString "setting_letters")], [3, 2, 1, 0], []⟩]
def fks : List FK := [.fn, .fn, .fn, .fn, .fn, .fn, .fn, .fn, .fn, .fn, .xi 0, .fn, .fn, .fn, .fn, .new 0, .mth 0, .fn, .fn, .xi 1, .new 1, .mth 0, .mth 0, .fn, .fn, .fn]
def cfls : List (List Str) := [[(Str.ofString "setting_letters"), (Str.ofString "row_letters"), (Str.ofString "table"), (Str.ofString "accepting")], [(Str.ofString "book"), (Str.ofString "setting")]]
def cnms : List Str := [(Str.ofString "Book"), (Str.ofString "Filter")]
def exns : List Str := [(Str.ofString "BadBook"), (Str.ofString "BadWord")]
def exfs : List (List Str) := [[(Str.ofString "part")], [(Str.ofString "word")]]
def exms : List (List Bool) := [[true, false], [false, true]]
end L_k04

set_option Elab.async false
set_option linter.all false
set_option maxRecDepth 100000
set_option maxHeartbeats 4000000
namespace L_k04
open PySem DL
/-! ### values of any kind -/
def vB : D → Bool
  | .obj _ _ => false
  | .atom _ => false
  | _ => true
def szl (xs : List D) : Nat := rszs (D.pys xs)
/-- a plain value, not too long -/
structure Pv (m k : Nat) (d : D) : Prop where
  pl : d.plain = true
  dp : d.py.depth ≤ k
  sh : d.py.showable = true
  ok : rok d.py = true
  sz : rsz d.py ≤ m
def Vl (m k : Nat) (d : D) : Prop := Pv m k d ∨ d = .dct [] []
structure Prt (m : Nat) (l r g a : D) : Prop where
  l : Vl m 3 l
  r : Vl m 3 r
  g : Vl m 3 g
  a : Vl m 3 a
/-- an alphabet -/
def alB : List Nat → Bool
  | [a] => decide (97 ≤ a) && decide (a ≤ 122)
  | [a, b] => decide (97 ≤ a) && (decide (a < b) && decide (b ≤ 122))
  | _ => false
def dbl : List Nat → Bool
  | [a, b] => a == b
  | _ => false
def alD : D → Bool
  | .str s => alB s.cps.toList
  | _ => false
def stD (n : Int) : D → Bool
  | .int i => decide (0 ≤ i) && decide (i < n)
  | _ => false
def tupB : D → Bool
  | .tup _ => true
  | _ => false
def items : D → List D
  | .tup xs => xs
  | _ => []
def rowB (n w : Int) (r : D) : Bool := decide (((items r).length : Int) = w) && (items r).all (stD n)
def lenD : D → Nat
  | .str s => s.length
  | _ => 0
def wdD (l r : D) : Int := ((lenD l : Int) + 1) * ((lenD r : Int) + 1) - 1
def sTable : D := .str (Str.ofString "table")
def sSet : D := .str (Str.ofString "settings")
def sRows : D := .str (Str.ofString "rows")
def sAcc : D := .str (Str.ofString "accepting")
def tabO (w : Int) : D → Option D
  | .tup rows => if (rows.isEmpty || !rows.all tupB) = true then some sTable else rows.find? fun r => !rowB rows.length w r
  | _ => some sTable
def ascD : List D → Bool
  | .int a :: .int b :: r => decide (a < b) && ascD (.int b :: r)
  | _ => true
def accB (n : Int) : D → Bool
  | .tup xs => xs.all (stD n) && ascD xs
  | _ => false
def dueO (l r g a : D) : Option D :=
  if alD l = false then some sSet else if alD r = false then some sRows else
    match tabO (wdD l r) g with
    | some p => some p
    | none => if accB (items g).length a = true then none else some sAcc
def oL : Option D → List D
  | none => []
  | some p => [p]
def madeL (l r g a : D) : List D := match dueO l r g a with
  | none => [.str (Str.ofString "made"), l, r, g, a, .int (items g).length]
  | some p => [.str (Str.ofString "bad"), p]
def wrd (L : Str) : D → Bool
  | .str t => t.cps.toList.all fun c => decide (c ∈ L.cps.toList)
  | _ => false
def fiL (L : Str) (d : D) : List D := if wrd L d = true then [.str (Str.ofString "filter"), d, .bl true] else [.str (Str.ofString "no word"), d]
/-! ### books as data -/
/-- one letter, or two that ascend -/
inductive Alp : Str → Prop
  | one (c : Nat) : 97 ≤ c → c ≤ 122 → Alp ⟨⟨[c]⟩⟩
  | two (c d : Nat) : 97 ≤ c → c < d → d ≤ 122 → Alp ⟨⟨[c, d]⟩⟩
structure Bk where
  A : Str
  B : Str
  T : List (List Int)
  F : List Int
def rowT (r : List Int) : D := .tup (r.map .int)
def Bk.n (P : Bk) : Nat := P.T.length
def Bk.w (P : Bk) : Nat := (P.A.length + 1) * (P.B.length + 1) - 1
def Bk.tab (P : Bk) : D := .tup (P.T.map rowT)
def Bk.fin (P : Bk) : D := .tup (P.F.map .int)
def Bk.ps (P : Bk) : List D := [.str P.A, .str P.B, P.tab, P.fin]
def Bk.parts (P : Bk) : D := .lst P.ps
def Bk.book (P : Bk) : D := .obj 0 P.ps
structure Bk.Ok (P : Bk) : Prop where
  a : Alp P.A
  b : Alp P.B
  noq : ∀ c ∈ P.A.cps.toList, c ≠ 113
  n0 : 0 < P.n
  n1 : P.n ≤ 4
  row : ∀ r ∈ P.T, r.length = P.w ∧ ∀ e ∈ r, 0 ≤ e ∧ e < P.n
  acc : ∀ e ∈ P.F, 0 ≤ e ∧ e < P.n
  up : P.F.Pairwise (· < ·)
def eqO (fs : List D) : D → Bool
  | .obj _ gs => (D.tup fs).eqv (.tup gs)
  | _ => false
def wordy (d : D) : Prop := vB d = true ∧ ∀ t, d = .str t → t.length ≤ 100000
def cts : List Cp := [
  ctDraw.cp,
  ctPick.cp,
  .of (fun (_ : Unit) ds => ds = [.atom 0]) fun _ z => ∃ P : Bk, P.Ok ∧ z = P.parts,
  .of (fun (p : Nat × List D × Int) ds => (p.1 ≤ 100000 ∧ p.2.1 ≠ [] ∧ (∀ x ∈ p.2.1, Pv p.1 1 x) ∧ szl p.2.1 ≤ p.1 ∧ 0 ≤ p.2.2 ∧ p.2.2 ≤ 100000) ∧ ds = [.atom 0, .tup p.2.1, .int p.2.2]) fun p z => Pv (10 * p.1 + 60) 2 z,
  .of (fun (p : Nat × D × D × D × D) ds => p.1 ≤ 5000 ∧ Prt p.1 p.2.1 p.2.2.1 p.2.2.2.1 p.2.2.2.2 ∧ ds = [.atom 0, .lst [p.2.1, p.2.2.1, p.2.2.2.1, p.2.2.2.2]]) fun p z => ∃ l r g a, z = .lst [l, r, g, a] ∧ Prt (12 * p.1 + 200) l r g a,
  .of (fun (d : D) ds => vB d = true ∧ ds = [d]) fun d z => z = .bl (alD d),
  .of (fun (p : Int × D) ds => vB p.2 = true ∧ ds = [.int p.1, p.2]) fun p z => z = .bl (stD p.1 p.2),
  .of (fun (p : Nat × D × D × D × D) ds => p.1 ≤ 100000 ∧ Prt p.1 p.2.1 p.2.2.1 p.2.2.2.1 p.2.2.2.2 ∧ ds = [.lst [p.2.1, p.2.2.1, p.2.2.2.1, p.2.2.2.2]]) fun p z => z = .lst (oL (dueO p.2.1 p.2.2.1 p.2.2.2.1 p.2.2.2.2)),
  .of (fun (w : Str) ds => w.length ≤ 2 ∧ ds = [.str w]) fun w z => z = .bl (dbl w.cps.toList),
  .of (fun (d : D) ds => vB d = true ∧ ds = [d]) fun d z => z = .bl (alD d),
  noCt.cp,
  .of (fun (p : Int × D) ds => vB p.2 = true ∧ ds = [.int p.1, p.2]) fun p z => z = .bl (stD p.1 p.2),
  .of (fun (p : Int × Int × List D) ds => (∀ x ∈ p.2.2, vB x = true) ∧ p.2.2.length ≤ 100000 ∧ ds = [.int p.1, .int p.2.1, .tup p.2.2]) fun p z => z = .bl (rowB p.1 p.2.1 (.tup p.2.2)),
  ⟨fun ds Q x => ∃ (m : Nat) (w : Int) (g : D), m ≤ 100000 ∧ Vl m 3 g ∧ ds = [.int w, g] ∧ (tabO w g = none → Q .non) ∧ ∀ p, tabO w g = some p → x 0 [p],
    fun _ _ _ _ _ h1 h2 ⟨m, w, g, a, b, c, d, e⟩ => ⟨m, w, g, a, b, c, fun z => h1 _ (d z), fun p z => h2 _ _ (e p z)⟩⟩,
  .of (fun (p : Nat × Int × D) ds => p.1 ≤ 100000 ∧ Vl p.1 3 p.2.2 ∧ ds = [.int p.2.1, p.2.2]) fun p z => z = .bl (accB p.2.1 p.2.2),
  ⟨fun ds Q x => ∃ (m : Nat) (l r g a : D), m ≤ 100000 ∧ Prt m l r g a ∧ ds = [l, r, g, a] ∧ (dueO l r g a = none → Q (.obj 0 [l, r, g, a])) ∧ ∀ p, dueO l r g a = some p → x 0 [p],
    fun _ _ _ _ _ h1 h2 ⟨m, l, r, g, a, i, j, c, d, e⟩ => ⟨m, l, r, g, a, i, j, c, fun z => h1 _ (d z), fun p z => h2 _ _ (e p z)⟩⟩,
  .of (fun (p : D × D × List D × D) ds => ds = [.obj 0 [p.1, p.2.1, .tup p.2.2.1, p.2.2.2]]) fun p z => z = .int p.2.2.1.length,
  .of (fun (p : (Nat × D × D × D × D) × Bool) ds => p.1.1 ≤ 100000 ∧ Prt p.1.1 p.1.2.1 p.1.2.2.1 p.1.2.2.2.1 p.1.2.2.2.2 ∧ ds = [.lst [p.1.2.1, p.1.2.2.1, p.1.2.2.2.1, p.1.2.2.2.2], .bl p.2]) fun p z => z = .lst (madeL p.1.2.1 p.1.2.2.1 p.1.2.2.2.1 p.1.2.2.2.2),
  .of (fun (p : Str × D) ds => wordy p.2 ∧ ds = [.str p.1, p.2]) fun p z => z = .bl (wrd p.1 p.2),
  noCt.cp,
  .of (fun (p : D × D) ds => ds = [p.1, p.2]) fun p z => z = .obj 1 [p.1, p.2],
  ⟨fun ds Q x => ∃ (A : Str) (fs : List D) (d : D), wordy d ∧ ds = [.obj 0 (.str A :: fs), d] ∧ (wrd A d = true → Q (.obj 1 [.obj 0 (.str A :: fs), d])) ∧ (wrd A d = false → x 1 [d]),
    fun _ _ _ _ _ h1 h2 ⟨A, fs, d, a, b, c, e⟩ => ⟨A, fs, d, a, b, fun z => h1 _ (c z), fun z => h2 _ _ (e z)⟩⟩,
  .of (fun (p : List D × D) ds => ((D.tup p.1).shaped = true ∧ p.1.length = 4) ∧ ((∃ gs, p.2 = .obj 0 gs ∧ (D.tup gs).shaped = true ∧ gs.length = 4) ∨ vB p.2 = true) ∧ ds = [.obj 0 p.1, p.2]) fun p z => z = .bl (eqO p.1 p.2),
  .of (fun (p : Bk × D) ds => p.1.Ok ∧ wordy p.2 ∧ ds = [p.1.book, p.2]) fun p z => z = .lst (fiL p.1.A p.2),
  .of (fun (P : Bk) ds => P.Ok ∧ ds = [.atom 0, P.parts]) fun _ z => z = .bl true,
  .of (fun (p : Bk × Bk) ds => (p.1.Ok ∧ p.2.Ok) ∧ ds = [p.1.parts, p.2.parts]) fun _ z => z = .bl true]
def Γ : Gm := mkGmP cts names ars fcs gnms gds kss fks cfls cnms exns exfs exms
/-! ### plain facts -/
theorem Alp.len {L : Str} (h : Alp L) : 1 ≤ L.length ∧ L.length ≤ 2 := by
  cases h with
  | one => exact ⟨Nat.le_refl _, by show 1 ≤ 2; decide⟩
  | two => exact ⟨by show 1 ≤ 2; decide, Nat.le_refl _⟩
theorem Alp.rng {L : Str} (h : Alp L) : ∀ c ∈ L.cps.toList, 97 ≤ c ∧ c ≤ 122 := by
  cases h with
  | one c h1 h2 => intro d hd; rw [List.mem_singleton.mp hd]; exact ⟨h1, h2⟩
  | two c d h1 h2 h3 =>
    intro e he
    rcases List.mem_cons.mp he with rfl | he
    · exact ⟨h1, by omega⟩
    · rw [List.mem_singleton.mp he]; exact ⟨by omega, h3⟩
theorem str1_beq (c d : Nat) : ((⟨#[c]⟩ : Str) == ⟨#[d]⟩) = (c == d) := by
  cases h : c == d
  · rw [beq_eq_false_iff_ne] at h ⊢
    intro e
    exact h (by injection e with e; simpa using e)
  · rw [beq_iff_eq] at h ⊢
    rw [h]
theorem isi_str (x : Str) : dIsi (.str x) "str" = some true := by
  show some ("str" == "str") = some true
  decide
theorem all_true {acc : List D} (h : ∀ d ∈ acc, d = .bl true) : ∃ bs, boolsD acc = some bs ∧ bs.all id = true := by
  have ea : acc = acc.map fun _ => D.bl true := by
    rw [List.map_congr_left (g := id) fun d hd => (h d hd).symm, List.map_id]
  refine ⟨acc.map fun _ => true, by rw [ea]; simpa using bools_map (fun _ => true) acc, ?_⟩
  simp
theorem ltS_one (c d : Nat) : ltS ⟨#[c]⟩ ⟨#[d]⟩ = decide (c < d) := by
  unfold ltS
  rw [t_one, t_one, decide_eq_decide]
  constructor
  · intro h
    cases h with
    | rel h => exact h
    | cons h => cases h
  · exact fun h => .rel h
theorem ints_get {l : List Int} {i : Nat} {d : D} (h : (l.map D.int)[i]? = some d) : ∃ e, l[i]? = some e ∧ d = .int e := by
  rw [List.getElem?_map] at h
  obtain ⟨c, e, rfl⟩ := Option.map_eq_some_iff.mp h
  exact ⟨c, e, rfl⟩
theorem getLt {α : Type} {l : List α} {i : Nat} {c : α} (h : l[i]? = some c) : c ∈ l ∧ i < l.length := ⟨List.mem_of_getElem? h, (List.getElem?_eq_some_iff.mp h).1⟩
theorem rows_plain : ∀ T : List (List Int), D.plains (T.map rowT) = true ∧ PyData.depthAll (D.pys (T.map rowT)) ≤ 1
  | [] => ⟨rfl, Nat.zero_le _⟩
  | r :: T => by
    obtain ⟨a, b⟩ := rows_plain T
    have fl : (r.map D.int).all D.flat = true := by
      rw [List.all_map]
      exact List.all_eq_true.mpr fun _ _ => rfl
    obtain ⟨p1, p2⟩ := flats_plain fl
    refine ⟨?_, ?_⟩
    · show (D.plains (r.map D.int) && D.plains (T.map rowT)) = true
      rw [p1, a]; rfl
    · show max (PyData.depthAll (D.pys (r.map D.int)) + 1) (PyData.depthAll (D.pys (T.map rowT))) ≤ 1
      rw [p2]; omega
theorem tupnil_sh : (D.tup []).shaped = true := by simp [D.shaped, D.plain, D.plains, D.py, D.pys, PyData.depth, PyData.depthAll]
theorem rows_get {T : List (List Int)} {i : Nat} {d : D} (h : (T.map rowT)[i]? = some d) : ∃ r, T[i]? = some r ∧ d = rowT r := by
  rw [List.getElem?_map] at h
  obtain ⟨c, e, rfl⟩ := Option.map_eq_some_iff.mp h
  exact ⟨c, e, rfl⟩
theorem mul_ok {i j : Int} (h1 : i.natAbs ≤ 1000) (h2 : j.natAbs ≤ 1000) : IMulOk i j := by
  unfold IMulOk
  have a := Nat.log2_le_self i.natAbs
  have b := Nat.log2_le_self j.natAbs
  omega
theorem signs_len (L : Str) : (signs L).length = L.length := by
  unfold signs
  rw [List.length_map, t_len]
theorem big {n : Nat} (h : n ≤ 100000) : n ≤ sizeLine := Nat.le_trans h (by decide)
theorem rng_get {n i : Nat} {d : D} (h : ((List.range n).map fun i : Nat => D.int (i : Int))[i]? = some d) : i < n ∧ d = .int i := by
  rw [List.getElem?_map] at h
  obtain ⟨c, e, rfl⟩ := Option.map_eq_some_iff.mp h
  obtain ⟨h1, h2⟩ := List.getElem?_eq_some_iff.mp e
  rw [List.length_range] at h1
  rw [List.getElem_range] at h2
  exact ⟨h1, by rw [h2]⟩
theorem isi_jn (x : Str) : dIsi (.str x) (mT "str.join") = some true := by
  show some ("str" == mT "str.join") = some true
  decide
def un (o : Option (Bool × D)) : Prop := ∀ d, o ≠ some (true, d)
theorem un_n : un none := fun _ h => nomatch h
theorem un_f {e : D} : un (some (false, e)) := fun _ h => by injection h with h; injection h with h _; cases h
theorem none_in (l : List Int) : ((l.map D.int).any fun z => z.eqv .non) = false := by
  rw [List.any_map, List.any_eq_false]
  intro e _ h
  simp [D.eqv, D.py, PyData.eqv] at h
theorem sh_non : D.non.shaped = true := by simp [D.shaped, D.plain, D.py, PyData.depth]
theorem isi_ap (xs : List D) : dIsi (.lst xs) (mT "list.append") = some true := by
  show some ("list" == mT "list.append") = some true
  decide
theorem ints_flat (F : List Int) : (F.map D.int).all D.flat = true := by
  rw [List.all_map]
  exact List.all_eq_true.mpr fun _ _ => rfl
theorem atI_map {α : Type} {f : α → D} {l : List α} {i : Int} {a : α} (h0 : 0 ≤ i) (h : l[i.toNat]? = some a) : L2.atI (l.map f) i = some (f a) := by
  have e : i = ((i.toNat : Nat) : Int) := by omega
  rw [e, atI_nat, List.getElem?_map, h]; rfl
theorem any_ints (F : List Int) (e : Int) : ((F.map D.int).any fun z => z.eqv (.int e)) = decide (e ∈ F) := by
  rw [List.any_map]
  have : ((fun z : D => z.eqv (.int e)) ∘ D.int) = fun d => d == e := by
    funext d
    exact eqv_int d e
  rw [this, Bool.eq_iff_iff, decide_eq_true_eq, List.any_eq_true]
  constructor
  · rintro ⟨y, hy, q⟩
    rw [beq_iff_eq] at q
    exact q ▸ hy
  · exact fun h => ⟨e, h, beq_self_eq_true e⟩
theorem map_get {α : Type} {G : α → D} {l : List α} {i : Nat} {d : D} (h : (l.map G)[i]? = some d) : ∃ a, l[i]? = some a ∧ d = G a := by
  rw [List.getElem?_map] at h
  obtain ⟨c, e, rfl⟩ := Option.map_eq_some_iff.mp h
  exact ⟨c, e, rfl⟩
theorem zipN {α : Type} (g : α → D) (l : List α) : List.zipWith (fun p q => D.tup [p, q]) (l.map g) ((l.drop 1).map g) = (l.zip (l.drop 1)).map fun p => D.tup [g p.1, g p.2] := by
  rw [List.zipWith_map, List.zip, List.map_zipWith]
theorem take_map {α β : Type} {f : α → β} {l : List α} {i : Nat} {a : α} (h : l[i]? = some a) : (l.take (i + 1)).map f = (l.take i).map f ++ [f a] := by
  rw [take_next h, List.map_append]; rfl
theorem snocm {α : Type} {f : α → D} {l : List α} {i : Nat} {a : α} {z : D} (h : l[i]? = some a) (e : z = f a) : (l.take i).map f ++ [z] = (l.take (i + 1)).map f := by
  rw [take_map h, e]
theorem take_all {α β γ : Type} (f : α → β) (g : α → γ) (l : List α) : (l.take (l.map g).length).map f = l.map f := by rw [List.length_map, List.take_length]
theorem acc_lt {α : Type} {f : α → D} {l : List α} {i : Nat} (h : l.length ≤ 100000) : ((l.take i).map f).length < sizeLine := by
  rw [List.length_map, List.length_take]
  exact Nat.lt_of_lt_of_le (show _ < 100001 by omega) (by decide)
theorem cut1 (y : Str) : (L2.cutS y (some 1) none).cps.toList = y.cps.toList.drop 1 := (t_cut _ _ _).trans (cutD_from _ 1)
def sg (c : Nat) : D := .str ⟨#[c]⟩
theorem signs_sg (y : Str) : signs y = y.cps.toList.map sg := rfl
theorem abB (c : Nat) : inS ⟨#[c]⟩ (Str.ofString "abcdefghijklmnopqrstuvwxyz") = (decide (97 ≤ c) && decide (c ≤ 122)) := by
  have e : (Str.ofString "abcdefghijklmnopqrstuvwxyz").cps.toList = List.range' 97 26 := by decide +kernel
  rw [inS_one, e, Bool.eq_iff_iff, decide_eq_true_eq, List.mem_range'_1, Bool.and_eq_true, decide_eq_true_eq, decide_eq_true_eq]
  omega
theorem beq_tl (x y : Str) : (x == y) = (x.cps.toList == y.cps.toList) := by
  rw [Bool.eq_iff_iff, beq_iff_eq, beq_iff_eq]
  exact ⟨fun h => by rw [h], t_inj⟩
theorem alB_len {l : List Nat} (h : alB l = true) : 1 ≤ l.length ∧ l.length ≤ 2 := by
  match l, h with
  | [a], _ => exact ⟨Nat.le_refl _, by show 1 ≤ 2; decide⟩
  | [a, b], _ => exact ⟨by show 1 ≤ 2; decide, Nat.le_refl _⟩
theorem filt_t {α : Type} {f : α → D} {p : α → Bool} {l : List α} {i : Nat} {a : α} (h : l[i]? = some a) (hp : p a = true) : ((l.take i).filter p).map f ++ [f a] = ((l.take (i + 1)).filter p).map f := by
  rw [take_next h, List.filter_append, List.map_append, List.filter_cons, if_pos hp]; rfl
theorem filt_f {α : Type} {f : α → D} {p : α → Bool} {l : List α} {i : Nat} {a : α} (h : l[i]? = some a) (hp : p a = false) : ((l.take i).filter p).map f = ((l.take (i + 1)).filter p).map f := by
  rw [take_next h, List.filter_append, List.map_append, List.filter_cons, if_neg (by rw [hp]; decide)]
  exact (List.append_nil _).symm
theorem facc_lt {α : Type} {f : α → D} {p : α → Bool} {l : List α} {i : Nat} (h : l.length ≤ 100000) : (((l.take i).filter p).map f).length < sizeLine := by
  rw [List.length_map]
  have := List.length_filter_le p (l.take i)
  rw [List.length_take] at this
  exact Nat.lt_of_le_of_lt this (Nat.lt_of_lt_of_le (show _ < 100001 by omega) (by decide))
theorem filt_all {α : Type} {f : α → D} {p : α → Bool} {G : α → D} (l : List α) : ((l.take (l.map G).length).filter p).map f = (l.filter p).map f := by rw [List.length_map, List.take_length]
theorem filt_nil {α : Type} {f : α → D} {p : α → Bool} (l : List α) : ((l.filter p).map f).isEmpty = l.all fun a => !p a := by
  induction l with
  | nil => rfl
  | cons a l ih =>
    rw [List.filter_cons, List.all_cons]
    cases p a
    · rw [if_neg (by decide), ih]; rfl
    · rw [if_pos rfl]; rfl
theorem chA : Str.ofString "a" = ⟨#[97]⟩ := by decide +kernel
theorem chZ : Str.ofString "z" = ⟨#[122]⟩ := by decide +kernel
def notAz (c : Nat) : Bool := !(decide (97 ≤ c) && decide (c ≤ 122))
theorem sg_flat (l : List Nat) (p : Nat → Bool) : ((l.filter p).map sg).all D.flat = true := by
  rw [List.all_map]
  exact List.all_eq_true.mpr fun _ _ => rfl
theorem wid (a b : Nat) : (((a : Nat) : Int) + 1) * (((b : Nat) : Int) + 1) - 1 = (((a + 1) * (b + 1) - 1 : Nat) : Int) := by
  have : 1 ≤ (a + 1) * (b + 1) := Nat.mul_pos (Nat.succ_pos _) (Nat.succ_pos _)
  rw [Int.ofNat_sub this, Int.natCast_mul]
  rfl
/-- the three first lines are as they should be -/
theorem cutI (l : List Int) : cutD (l.map D.int) (some 1) none = (l.drop 1).map D.int := (cutD_from _ 1).trans List.map_drop.symm
theorem ints_eqv : ∀ l l' : List Int, PyData.eqvAll (D.pys (l.map .int)) (D.pys (l'.map .int)) = true ↔ l = l'
  | [], [] => by simp [D.pys, PyData.eqvAll]
  | [], _ :: _ => by simp [D.pys, PyData.eqvAll]
  | _ :: _, [] => by simp [D.pys, PyData.eqvAll]
  | a :: l, b :: l' => by
    have := ints_eqv l l'
    simp only [List.map_cons, D.pys, D.py, PyData.eqvAll, PyData.eqv, Bool.and_eq_true, beq_iff_eq, List.cons.injEq, this]
theorem alp_of {A : Str} (h : alB A.cps.toList = true) : Alp A := by
  obtain ⟨⟨l⟩⟩ := A
  match l, h with
  | [a], h =>
    obtain ⟨h1, h2⟩ := (Bool.and_eq_true _ _).mp (show (decide (97 ≤ a) && decide (a ≤ 122)) = true from h)
    exact .one a (of_decide_eq_true h1) (of_decide_eq_true h2)
  | [a, b], h =>
    obtain ⟨h1, h2⟩ := (Bool.and_eq_true _ _).mp (show (decide (97 ≤ a) && (decide (a < b) && decide (b ≤ 122))) = true from h)
    obtain ⟨h2, h3⟩ := (Bool.and_eq_true _ _).mp h2
    exact .two a b (of_decide_eq_true h1) (of_decide_eq_true h2) (of_decide_eq_true h3)
theorem alp_B {A : Str} (h : Alp A) : alB A.cps.toList = true := by
  cases h with
  | one c h1 h2 =>
    show (decide (97 ≤ c) && decide (c ≤ 122)) = true
    rw [decide_eq_true h1, decide_eq_true h2]; rfl
  | two c d h1 h2 h3 =>
    show (decide (97 ≤ c) && (decide (c < d) && decide (d ≤ 122))) = true
    rw [decide_eq_true h1, decide_eq_true h2, decide_eq_true h3]; rfl
theorem p1 {ds : List D} {Q : D → Prop} {x : Xp} (h : Γ.phi 1 ds Q x) : wFn Γ N1 b1 ds Q x := by
  obtain ⟨⟨xs, rfl, h1, h2⟩, hQ, _⟩ := h
  rw [w1, ← vSs_eq]
  conv => whnf
  refine ⟨rfl, ctDraw_phi (many := xs.length) ?_ (by omega) fun k k0 k1 => ?_⟩
  · cases xs with
    | nil => exact absurd rfl h1
    | cons => simp only [List.length_cons]; omega
  obtain ⟨d, e, hd⟩ := atI_in k0 k1
  exact ⟨d, e, hQ d ⟨xs, rfl, hd⟩⟩
theorem isi_cases (d : D) (h : vB d = true) : (∃ s, d = .str s) ∨ dIsi d "str" = some false ∧ alD d = false := by
  cases d with
  | non => exact .inr ⟨rfl, rfl⟩
  | bl b => exact .inr ⟨by show some ("str" == "bool" || "str" == "int") = some false; decide, rfl⟩
  | int i => exact .inr ⟨by show some ("str" == "int") = some false; decide, rfl⟩
  | str s => exact .inl ⟨s, rfl⟩
  | lst xs => exact .inr ⟨by show some ("str" == "list") = some false; decide, rfl⟩
  | tup xs => exact .inr ⟨by show some ("str" == "tuple") = some false; decide, rfl⟩
  | dct ks vs => exact .inr ⟨by show some ("str" == "dict") = some false; decide, rfl⟩
  | obj c fs => cases h
  | atom i => cases h
theorem tup_cases (d : D) (h : vB d = true) : (∃ s, d = .tup s) ∨ dIsi d "tuple" = some false ∧ tupB d = false := by
  cases d with
  | non => exact .inr ⟨rfl, rfl⟩
  | bl b => exact .inr ⟨by show some ("tuple" == "bool" || "tuple" == "int") = some false; decide, rfl⟩
  | int i => exact .inr ⟨by show some ("tuple" == "int") = some false; decide, rfl⟩
  | str s => exact .inr ⟨by show some ("tuple" == "str") = some false; decide, rfl⟩
  | lst xs => exact .inr ⟨by show some ("tuple" == "list") = some false; decide, rfl⟩
  | tup xs => exact .inl ⟨xs, rfl⟩
  | dct ks vs => exact .inr ⟨by show some ("tuple" == "dict") = some false; decide, rfl⟩
  | obj c fs => cases h
  | atom i => cases h
theorem isi_tup (xs : List D) : dIsi (.tup xs) "tuple" = some true := by
  show some ("tuple" == "tuple") = some true
  decide
theorem isi_int (i : Int) : dIsi (.int i) "int" = some true ∧ dIsi (.int i) "bool" = some false := ⟨by show some ("int" == "int") = some true; decide, by show some ("bool" == "int") = some false; decide⟩
theorem int_cases (n : Int) (d : D) (h : vB d = true) : (∃ s, d = .int s) ∨ stD n d = false ∧ (dIsi d "int" = some false ∨ (∃ b, d = .bl b) ∧ dIsi d "int" = some true ∧ dIsi d "bool" = some true) := by
  cases d with
  | non => exact .inr ⟨rfl, .inl rfl⟩
  | bl b => exact .inr ⟨rfl, .inr ⟨⟨b, rfl⟩, by show some ("int" == "bool" || "int" == "int") = some true; decide, by show some ("bool" == "bool" || "bool" == "int") = some true; decide⟩⟩
  | int i => exact .inl ⟨i, rfl⟩
  | str s => exact .inr ⟨rfl, .inl (by show some ("int" == "str") = some false; decide)⟩
  | lst xs => exact .inr ⟨rfl, .inl (by show some ("int" == "list") = some false; decide)⟩
  | tup xs => exact .inr ⟨rfl, .inl (by show some ("int" == "tuple") = some false; decide)⟩
  | dct ks vs => exact .inr ⟨rfl, .inl (by show some ("int" == "dict") = some false; decide)⟩
  | obj c fs => cases h
  | atom i => cases h
theorem p6 {ds : List D} {Q : D → Prop} {x : Xp} (h : Γ.phi 6 ds Q x) : wFn Γ N6 b6 ds Q x := by
  obtain ⟨⟨n, d⟩, h1, hQ⟩ := h
  obtain ⟨hv, rfl⟩ : vB d = true ∧ ds = [.int n, d] := h1
  have hQ : Q (.bl (stD n d)) := hQ _ rfl
  rw [w6, ← vSs_eq]
  rcases int_cases n d hv with ⟨i, rfl⟩ | ⟨e, q | ⟨⟨b, rfl⟩, q1, q2⟩⟩
  · conv => whnf
    refine ⟨true, (isi_int i).1, ?_⟩
    conv => whnf
    refine ⟨true, rfl, ?_⟩
    conv => whnf
    refine ⟨false, (isi_int i).2, ?_⟩
    conv => whnf
    refine ⟨false, rfl, ?_⟩
    conv => whnf
    refine ⟨_, rfl, ?_⟩
    conv => whnf
    refine ⟨_, rfl, ?_⟩
    have hQ : Q (.bl (decide (0 ≤ i) && decide (i < n))) := hQ
    refine br_of (fun e => ?_) fun e => ?_
    · rw [e, Bool.true_and] at hQ
      exact hQ
    · rw [e, Bool.false_and] at hQ
      rw [e]
      exact hQ
  · rw [e] at hQ
    conv => whnf
    refine ⟨_, q, ?_⟩
    conv => whnf
    exact ⟨_, rfl, hQ⟩
  · rw [e] at hQ
    conv => whnf
    refine ⟨_, q1, ?_⟩
    conv => whnf
    refine ⟨_, rfl, ?_⟩
    conv => whnf
    refine ⟨_, q2, ?_⟩
    conv => whnf
    refine ⟨_, rfl, ?_⟩
    conv => whnf
    exact ⟨_, rfl, hQ⟩
theorem p11 {ds : List D} {Q : D → Prop} {x : Xp} (h : Γ.phi 11 ds Q x) : wFn Γ N11 b11 ds Q x := by
  obtain ⟨⟨n, d⟩, h1, hQ⟩ := h
  obtain ⟨hv, rfl⟩ : vB d = true ∧ ds = [.int n, d] := h1
  have hQ : Q (.bl (stD n d)) := hQ _ rfl
  rw [w11, ← vSs_eq]
  rcases int_cases n d hv with ⟨i, rfl⟩ | ⟨e, q | ⟨⟨b, rfl⟩, q1, q2⟩⟩
  · conv => whnf
    refine ⟨true, (isi_int i).1, ?_⟩
    conv => whnf
    refine ⟨true, rfl, ?_⟩
    conv => whnf
    refine ⟨false, (isi_int i).2, ?_⟩
    conv => whnf
    refine ⟨false, rfl, ?_⟩
    conv => whnf
    refine ⟨_, rfl, ?_⟩
    have hQ : Q (.bl (decide (0 ≤ i) && decide (i < n))) := hQ
    conv => whnf
    show br (decide (0 ≤ i)) _ _
    refine br_of (fun e => ?_) fun e => ?_
    · rw [e, Bool.true_and] at hQ
      exact hQ
    · rw [e, Bool.false_and] at hQ
      exact hQ
  · rw [e] at hQ
    conv => whnf
    refine ⟨_, q, ?_⟩
    conv => whnf
    exact ⟨_, rfl, hQ⟩
  · rw [e] at hQ
    conv => whnf
    refine ⟨_, q1, ?_⟩
    conv => whnf
    refine ⟨_, rfl, ?_⟩
    conv => whnf
    refine ⟨_, q2, ?_⟩
    conv => whnf
    refine ⟨_, rfl, ?_⟩
    conv => whnf
    exact ⟨_, rfl, hQ⟩
theorem p12 {ds : List D} {Q : D → Prop} {x : Xp} (h : Γ.phi 12 ds Q x) : wFn Γ N12 b12 ds Q x := by
  obtain ⟨⟨n, w, xs⟩, h1, hQ⟩ := h
  obtain ⟨hv, hl, rfl⟩ : (∀ x ∈ xs, vB x = true) ∧ xs.length ≤ 100000 ∧ ds = [.int n, .int w, .tup xs] := h1
  have hQ : Q (.bl (decide ((xs.length : Int) = w) && xs.all (stD n))) := hQ _ rfl
  rw [w12, ← vSs_eq]
  conv => whnf
  refine ⟨⟨sh_int _, sh_int _⟩, ?_⟩
  rw [eqv_int]
  have eb : ((xs.length : Int) == w) = decide ((xs.length : Int) = w) := rfl
  rw [eb]
  conv => whnf
  refine ⟨_, rfl, ?_⟩
  refine br_of (fun e => ?_) fun e => ?_
  rotate_left
  · rw [e, Bool.false_and] at hQ
    rw [e]
    exact hQ
  rw [e, Bool.true_and] at hQ
  conv => whnf
  refine ⟨_, rfl, ?_⟩
  conv => whnf
  refine ⟨rfl, fun i acc => acc = (xs.take i).map fun d => .bl (stD n d), rfl, ?_, ?_⟩
  · rintro i d acc hd rfl
    have hm := (getLt hd).1
    conv => whnf
    refine ⟨true, rfl, rfl, acc_lt hl, ?_⟩
    conv => whnf
    refine ⟨rfl, (n, d), ⟨hv d hm, rfl⟩, fun z hz => ?_⟩
    cases hz
    exact ⟨rfl, snocm (f := fun d => D.bl (stD n d)) hd rfl⟩
  rintro acc rfl
  rw [List.take_length]
  conv => whnf
  refine ⟨_, bools_map _ _, ?_⟩
  rw [List.all_map]
  exact hQ
theorem p16 {ds : List D} {Q : D → Prop} {x : Xp} (h : Γ.phi 16 ds Q x) : wFn Γ N16 b16 ds Q x := by
  obtain ⟨⟨l, r, xs, a⟩, rfl, hQ⟩ := h
  have hQ : Q (.int xs.length) := hQ _ rfl
  rw [w16, ← vSs_eq]
  conv => whnf
  exact ⟨_, _, rfl, rfl, hQ⟩
theorem p18 {ds : List D} {Q : D → Prop} {x : Xp} (h : Γ.phi 18 ds Q x) : wFn Γ N18 b18 ds Q x := by
  obtain ⟨⟨L, d⟩, h1, hQ⟩ := h
  obtain ⟨⟨hv, hl⟩, rfl⟩ : wordy d ∧ ds = [.str L, d] := h1
  have hQ : Q (.bl (wrd L d)) := hQ _ rfl
  rw [w18, ← vSs_eq]
  rcases isi_cases d hv with ⟨s, rfl⟩ | ⟨e, _⟩
  rotate_left
  · have e2 : wrd L d = false := by
      cases d with
      | str s => rw [isi_str] at e; cases e
      | _ => rfl
    rw [e2] at hQ
    conv => whnf
    refine ⟨_, e, ?_⟩
    conv => whnf
    exact ⟨_, rfl, hQ⟩
  have hl := hl s rfl
  rw [← t_len] at hl
  conv => whnf
  refine ⟨true, isi_str _, ?_⟩
  conv => whnf
  refine ⟨true, rfl, ?_⟩
  conv => whnf
  refine ⟨_, rfl, ?_⟩
  rw [signs_sg]
  conv => whnf
  refine ⟨rfl, fun i acc => acc = (s.cps.toList.take i).map fun c => .bl (decide (c ∈ L.cps.toList)), rfl, ?_, ?_⟩
  · rintro i d acc hd rfl
    obtain ⟨c, hc, rfl⟩ := map_get hd
    conv => whnf
    refine ⟨true, rfl, rfl, acc_lt hl, ?_⟩
    conv => whnf
    exact ⟨rfl, snocm (f := fun c => D.bl (decide (c ∈ L.cps.toList))) hc (congrArg D.bl (inS_one c L))⟩
  rintro acc rfl
  rw [take_all]
  conv => whnf
  refine ⟨_, bools_map _ _, ?_⟩
  rw [List.all_map]
  exact hQ
theorem p8 {ds : List D} {Q : D → Prop} {x : Xp} (h : Γ.phi 8 ds Q x) : wFn Γ N8 b8 ds Q x := by
  obtain ⟨y, ⟨hl, rfl⟩, hQ⟩ := h
  have hQ := hQ _ rfl
  rw [w8, ← vSs_eq]
  conv => whnf
  refine ⟨1, rfl, ?_⟩
  conv => whnf
  refine ⟨_, _, rfl, rfl, ?_⟩
  rw [signs_sg, signs_sg, cut1, zipN]
  rw [← t_len] at hl
  generalize y.cps.toList = l at hl hQ ⊢
  conv => whnf
  refine ⟨rfl, fun i acc => acc = ((l.zip (l.drop 1)).take i).map fun p => .bl (p.1 == p.2), rfl, ?_, ?_⟩
  · rintro i d acc hd rfl
    obtain ⟨⟨a, b⟩, he, rfl⟩ := map_get hd
    conv => whnf
    refine ⟨rfl, ?_⟩
    conv => whnf
    refine ⟨true, rfl, rfl, acc_lt (by rw [List.length_zip]; omega), ?_⟩
    conv => whnf
    refine ⟨⟨sh_str _, sh_str _⟩, ?_⟩
    conv => whnf
    exact ⟨rfl, snocm he (by rw [← str1_beq, ← eqv_str]; rfl)⟩
  rintro acc rfl
  rw [take_all]
  conv => whnf
  refine ⟨_, bools_map _ _, ?_⟩
  have e : ((l.zip (l.drop 1)).map fun p => p.1 == p.2).any id = dbl l := by
    match l, hl with
    | [], _ => rfl
    | [a], _ => rfl
    | [a, b], _ => show ((a == b) || false) = (a == b); rw [Bool.or_false]
  rw [e]
  exact hQ
theorem p9 {ds : List D} {Q : D → Prop} {x : Xp} (h : Γ.phi 9 ds Q x) : wFn Γ N9 b9 ds Q x := by
  obtain ⟨d, ⟨hv, rfl⟩, hQ⟩ := h
  have hQ : Q (.bl (alD d)) := hQ _ rfl
  rw [w9, ← vSs_eq]
  rcases isi_cases d hv with ⟨y, rfl⟩ | ⟨e, e2⟩
  rotate_left
  · rw [e2] at hQ
    conv => whnf
    refine ⟨_, e, ?_⟩
    conv => whnf
    exact ⟨_, rfl, hQ⟩
  have hQ : Q (.bl (alB y.cps.toList)) := hQ
  conv => whnf
  refine ⟨true, isi_str _, ?_⟩
  conv => whnf
  refine ⟨true, rfl, ?_⟩
  have key : 1 ≤ y.length ∧ y.length ≤ 2 ∨ alB y.cps.toList = false := by
    by_cases e : alB y.cps.toList = true
    · have := alB_len e
      rw [t_len] at this
      exact .inl this
    · exact .inr (Bool.eq_false_iff.mpr e)
  have bad : ¬ (1 ≤ y.length ∧ y.length ≤ 2) → Q (.bl false) := fun h => by
    rcases key with q | q
    · exact absurd q h
    · rw [← q]; exact hQ
  show br (decide (1 ≤ ((y.length : Nat) : Int))) _ _
  refine br_of (fun h1 => ?_) fun h1 => ?_
  rotate_left
  · have h1 := of_decide_eq_false h1
    conv => whnf
    exact bad (by omega)
  show br (!decide (((y.length : Nat) : Int) ≤ 2)) _ _
  refine br_of (fun h2 => ?_) fun h2 => ?_
  · have h2 := of_decide_eq_false (p := ((y.length : Nat) : Int) ≤ 2) (by revert h2; cases decide (((y.length : Nat) : Int) ≤ 2) <;> simp)
    conv => whnf
    exact bad (by omega)
  have h1 := of_decide_eq_true h1
  have h2 : ((y.length : Nat) : Int) ≤ 2 := of_decide_eq_true (by revert h2; cases decide (((y.length : Nat) : Int) ≤ 2) <;> simp)
  clear bad key
  obtain ⟨⟨l⟩⟩ := y
  have hl : 1 ≤ l.length ∧ l.length ≤ 2 := by
    have e : (⟨⟨l⟩⟩ : Str).length = l.length := rfl
    rw [e] at h1 h2
    omega
  have hQ : Q (.bl (alB l)) := hQ
  conv => whnf
  refine ⟨_, rfl, ?_⟩
  rw [signs_sg]
  conv => whnf
  refine ⟨rfl, fun i acc => acc = (l.take i).map fun c => .bl (decide (97 ≤ c) && decide (c ≤ 122)), rfl, ?_, ?_⟩
  · rintro i d acc hd rfl
    obtain ⟨c, hc, rfl⟩ := map_get hd
    conv => whnf
    refine ⟨true, rfl, rfl, acc_lt (by omega), ?_⟩
    conv => whnf
    exact ⟨rfl, snocm hc (congrArg D.bl (abB c))⟩
  rintro acc rfl
  rw [take_all]
  conv => whnf
  refine ⟨_, bools_map _ _, ?_⟩
  have fin : ∀ w : Str, w.length ≤ 2 → Q (.bl (!dbl w.cps.toList)) → Γ.phi 8 [.str w] (fun z => ∃ b, z.truth = some b ∧ Q (.bl (!b))) x := fun w hw q => ⟨w, ⟨hw, rfl⟩, fun z hz => ⟨_, by rw [show z = .bl (dbl w.cps.toList) from hz]; rfl, q⟩⟩
  match l, hl with
  | [c], _ =>
    have ea : ([c].map fun c => (decide (97 ≤ c) && decide (c ≤ 122))).all id = alB [c] := Bool.and_true _
    rw [ea]
    conv => whnf
    refine ⟨_, rfl, ?_⟩
    refine br_of (fun e => ?_) fun e => ?_
    rotate_left
    · rw [e]; rw [e] at hQ; exact hQ
    conv => whnf
    refine ⟨c, rfl, ?_⟩
    conv => whnf
    refine ⟨1, rfl, ?_⟩
    conv => whnf
    refine ⟨c, rfl, ?_⟩
    conv => whnf
    rw [ltS_one]
    refine ⟨_, rfl, ?_⟩
    rw [decide_eq_false (Nat.lt_irrefl c)]
    conv => whnf
    refine ⟨rfl, fin ⟨⟨[c]⟩⟩ (by show 1 ≤ 2; decide) ?_⟩
    rw [e] at hQ
    exact hQ
  | [c, d], _ =>
    have ea : ([c, d].map fun c => (decide (97 ≤ c) && decide (c ≤ 122))).all id = decide ((97 ≤ c ∧ c ≤ 122) ∧ 97 ≤ d ∧ d ≤ 122) := by
      show ((decide (97 ≤ c) && decide (c ≤ 122)) && ((decide (97 ≤ d) && decide (d ≤ 122)) && true)) = _
      rw [Bool.and_true, Bool.eq_iff_iff]
      simp only [Bool.and_eq_true, decide_eq_true_eq]
    have eb : alB [c, d] = decide (97 ≤ c ∧ c < d ∧ d ≤ 122) := by
      show (decide (97 ≤ c) && (decide (c < d) && decide (d ≤ 122))) = _
      rw [Bool.eq_iff_iff]
      simp only [Bool.and_eq_true, decide_eq_true_eq]
    rw [ea]
    rw [eb] at hQ
    conv => whnf
    refine ⟨_, rfl, ?_⟩
    refine br_of (fun e => ?_) fun e => ?_
    rotate_left
    · rw [e]
      have e := of_decide_eq_false e
      rw [decide_eq_false (by omega)] at hQ
      exact hQ
    have e := of_decide_eq_true e
    conv => whnf
    refine ⟨c, rfl, ?_⟩
    conv => whnf
    refine ⟨1, rfl, ?_⟩
    conv => whnf
    refine ⟨d, rfl, ?_⟩
    conv => whnf
    rw [ltS_one]
    refine ⟨_, rfl, ?_⟩
    by_cases hd : d < c
    · rw [decide_eq_true hd]
      rw [decide_eq_false (by omega)] at hQ
      exact hQ
    rw [decide_eq_false hd]
    conv => whnf
    refine ⟨rfl, fin ⟨⟨[c, d]⟩⟩ (by show 2 ≤ 2; decide) ?_⟩
    have e2 : (!dbl [c, d]) = decide (97 ≤ c ∧ c < d ∧ d ≤ 122) := by
      show (!(c == d)) = _
      rw [Bool.eq_iff_iff, decide_eq_true_eq, Bool.not_eq_true', beq_eq_false_iff_ne]
      omega
    show Q (.bl (!dbl [c, d]))
    rw [e2]
    exact hQ
theorem p5 {ds : List D} {Q : D → Prop} {x : Xp} (h : Γ.phi 5 ds Q x) : wFn Γ N5 b5 ds Q x := by
  obtain ⟨d, ⟨hv, rfl⟩, hQ⟩ := h
  have hQ : Q (.bl (alD d)) := hQ _ rfl
  rw [w5, ← vSs_eq]
  rcases isi_cases d hv with ⟨y, rfl⟩ | ⟨e, e2⟩
  rotate_left
  · rw [e2] at hQ
    conv => whnf
    refine ⟨_, e, ?_⟩
    conv => whnf
    exact ⟨_, rfl, hQ⟩
  have hQ : Q (.bl (alB y.cps.toList)) := hQ
  have key : 1 ≤ y.length ∧ y.length ≤ 2 ∨ alB y.cps.toList = false := by
    by_cases e : alB y.cps.toList = true
    · have := alB_len e
      rw [t_len] at this
      exact .inl this
    · exact .inr (Bool.eq_false_iff.mpr e)
  have bad : ¬ (1 ≤ y.length ∧ y.length ≤ 2) → Q (.bl false) := fun h => by
    rcases key with q | q
    · exact absurd q h
    · rw [← q]; exact hQ
  conv => whnf
  refine ⟨true, isi_str _, ?_⟩
  conv => whnf
  refine ⟨true, rfl, ?_⟩
  conv => whnf
  refine br_of (fun h1 => ?_) fun h1 => ?_
  rotate_left
  · have h1 := of_decide_eq_false h1
    conv => whnf
    exact bad (by omega)
  conv => whnf
  cases h2 : decide (((y.length : Nat) : Int) < 3)
  · have h2 := of_decide_eq_false h2
    conv => whnf
    exact bad (by omega)
  have h1 := of_decide_eq_true h1
  have h2 := of_decide_eq_true h2
  clear bad key
  obtain ⟨⟨l⟩⟩ := y
  have hl : 1 ≤ l.length ∧ l.length ≤ 2 := by
    have e : (⟨⟨l⟩⟩ : Str).length = l.length := rfl
    rw [e] at h1 h2
    omega
  have hQ : Q (.bl (alB l)) := hQ
  conv => whnf
  refine ⟨_, rfl, ?_⟩
  rw [signs_sg]
  conv => whnf
  refine ⟨rfl, fun i acc => acc = ((l.take i).filter notAz).map sg, rfl, ?_, ?_⟩
  · rintro i d acc hd rfl
    obtain ⟨c, hc, rfl⟩ := map_get hd
    conv => whnf
    rw [chA, ltS_one]
    refine br_of (fun e => ?_) fun e => ?_
    rotate_left
    · have e : ¬ 97 ≤ c := by
        have := of_decide_eq_true (p := c < 97) (by revert e; cases decide (c < 97) <;> simp)
        omega
      conv => whnf
      refine ⟨rfl, facc_lt (by omega), ?_⟩
      conv => whnf
      exact ⟨rfl, filt_t (p := notAz) hc (by unfold notAz; rw [decide_eq_false e]; rfl)⟩
    have e : 97 ≤ c := by
      have := of_decide_eq_false (p := c < 97) (by revert e; cases decide (c < 97) <;> simp)
      omega
    conv => whnf
    rw [chZ, ltS_one]
    by_cases e2 : 122 < c
    · rw [decide_eq_true e2]
      refine ⟨rfl, facc_lt (by omega), ?_⟩
      conv => whnf
      exact ⟨rfl, filt_t (p := notAz) hc (by unfold notAz; rw [decide_eq_false (p := c ≤ 122) (by omega), Bool.and_false]; rfl)⟩
    · rw [decide_eq_false e2]
      exact ⟨rfl, filt_f (p := notAz) hc (by unfold notAz; rw [decide_eq_true e, decide_eq_true (p := c ≤ 122) (by omega)]; rfl)⟩
  rintro acc rfl
  rw [filt_all]
  conv => whnf
  refine ⟨by decide, ?_⟩
  conv => whnf
  refine ⟨⟨sh_flats (sg_flat l notAz), sh_nil⟩, ?_⟩
  rw [eqv_nil, filt_nil]
  match l, hl with
  | [c], _ =>
    have e1 : ([c].all fun a => !notAz a) = alB [c] := by
      show ((!!(decide (97 ≤ c) && decide (c ≤ 122))) && true) = _
      rw [Bool.not_not, Bool.and_true]
      rfl
    rw [e1]
    conv => whnf
    refine ⟨_, rfl, ?_⟩
    cases e : alB [c]
    · rw [e] at hQ
      exact hQ
    rw [e] at hQ
    conv => whnf
    refine ⟨⟨sh_int _, sh_int _⟩, ?_⟩
    rw [eqv_int]
    conv => whnf
    exact ⟨_, rfl, hQ⟩
  | [c, d], _ =>
    have ea : ([c, d].all fun a => !notAz a) = decide ((97 ≤ c ∧ c ≤ 122) ∧ 97 ≤ d ∧ d ≤ 122) := by
      show ((!!(decide (97 ≤ c) && decide (c ≤ 122))) && ((!!(decide (97 ≤ d) && decide (d ≤ 122))) && true)) = _
      rw [Bool.not_not, Bool.not_not, Bool.and_true, Bool.eq_iff_iff]
      simp only [Bool.and_eq_true, decide_eq_true_eq]
    have eb : alB [c, d] = decide (97 ≤ c ∧ c < d ∧ d ≤ 122) := by
      show (decide (97 ≤ c) && (decide (c < d) && decide (d ≤ 122))) = _
      rw [Bool.eq_iff_iff]
      simp only [Bool.and_eq_true, decide_eq_true_eq]
    rw [ea]
    rw [eb] at hQ
    conv => whnf
    refine ⟨_, rfl, ?_⟩
    by_cases e : (97 ≤ c ∧ c ≤ 122) ∧ 97 ≤ d ∧ d ≤ 122
    rotate_left
    · rw [decide_eq_false e]
      rw [decide_eq_false (by omega)] at hQ
      exact hQ
    rw [decide_eq_true e]
    conv => whnf
    refine ⟨⟨sh_int _, sh_int _⟩, ?_⟩
    rw [eqv_int]
    conv => whnf
    refine ⟨_, rfl, ?_⟩
    conv => whnf
    refine ⟨c, (atI_nat (k := 0)).trans rfl, ?_⟩
    conv => whnf
    refine ⟨d, (atI_nat (k := 1)).trans rfl, ?_⟩
    conv => whnf
    rw [ltS_one]
    by_cases e2 : c < d
    · rw [decide_eq_true e2]
      rw [decide_eq_true (by omega)] at hQ
      exact hQ
    · rw [decide_eq_false e2]
      rw [decide_eq_false (by omega)] at hQ
      exact hQ
/-! ### values -/
theorem Pv.vB {m k : Nat} {d : D} (h : Pv m k d) : vB d = true := by
  cases d with
  | obj c fs => have := h.pl; cases this
  | atom i => have := h.pl; cases this
  | _ => rfl
theorem Vl.vB {m k : Nat} {d : D} (h : Vl m k d) : vB d = true := by
  rcases h with h | rfl
  · exact h.vB
  · rfl
theorem Pv.shp {m k : Nat} {d : D} (h : Pv m k d) (hk : k ≤ 60) : d.shaped = true := by
  unfold D.shaped
  rw [h.pl]
  exact decide_eq_true (Nat.le_trans h.dp hk)
theorem Pv.mono {m k m' k' : Nat} {d : D} (h : Pv m k d) (h1 : m ≤ m') (h2 : k ≤ k') : Pv m' k' d := ⟨h.pl, Nat.le_trans h.dp h2, h.sh, h.ok, Nat.le_trans h.sz h1⟩
theorem Vl.mono {m k m' k' : Nat} {d : D} (h : Vl m k d) (h1 : m ≤ m') (h2 : k ≤ k') : Vl m' k' d := h.imp (fun h => h.mono h1 h2) id
theorem Prt.mono {m m' : Nat} {l r g a : D} (h : Prt m l r g a) (h1 : m ≤ m') : Prt m' l r g a := ⟨h.l.mono h1 (Nat.le_refl _), h.r.mono h1 (Nat.le_refl _), h.g.mono h1 (Nat.le_refl _), h.a.mono h1 (Nat.le_refl _)⟩
/-- what a display of plain things is -/
structure Pvs (m k : Nat) (xs : List D) : Prop where
  pl : D.plains xs = true
  dp : PyData.depthAll (D.pys xs) ≤ k
  sh : PyData.showableAll (D.pys xs) = true
  ok : roks (D.pys xs) = true
  sz : szl xs ≤ m
theorem sz_nil : szl [] = 0 := rfl
theorem sz_cons (x : D) (xs : List D) : szl (x :: xs) = rsz x.py + 2 + szl xs := rfl
theorem sz_app : ∀ xs ys : List D, szl (xs ++ ys) = szl xs + szl ys
  | [], ys => by rw [List.nil_append, sz_nil, Nat.zero_add]
  | x :: xs, ys => by rw [List.cons_append, sz_cons, sz_cons, sz_app xs ys]; omega
theorem sz_len : ∀ xs : List D, 2 * xs.length ≤ szl xs
  | [] => Nat.le_refl _
  | x :: xs => by have := sz_len xs; rw [sz_cons, List.length_cons]; omega
theorem Pvs.nil {m k : Nat} : Pvs m k [] := ⟨rfl, Nat.zero_le _, rfl, rfl, Nat.zero_le _⟩
theorem Pvs.iff {m k : Nat} : ∀ {xs : List D}, Pvs m k xs ↔ (∀ x ∈ xs, Pv m k x) ∧ szl xs ≤ m
  | [] => ⟨fun h => ⟨(fun _ h => nomatch h), h.sz⟩, fun _ => .nil⟩
  | x :: xs => by
    constructor
    · intro h
      have h1 := h.pl
      have h2 := h.dp
      have h3 := h.sh
      have h4 := h.ok
      have h5 := h.sz
      rw [sz_cons] at h5
      obtain ⟨a1, a2⟩ := (Bool.and_eq_true _ _).mp (show (x.plain && D.plains xs) = true from h1)
      have b : max x.py.depth (PyData.depthAll (D.pys xs)) ≤ k := h2
      obtain ⟨c1, c2⟩ := (Bool.and_eq_true _ _).mp (show (x.py.showable && PyData.showableAll (D.pys xs)) = true from h3)
      obtain ⟨d1, d2⟩ := (Bool.and_eq_true _ _).mp (show (rok x.py && roks (D.pys xs)) = true from h4)
      have ih := (Pvs.iff (m := m) (k := k) (xs := xs)).mp ⟨a2, by omega, c2, d2, by omega⟩
      refine ⟨fun y hy => ?_, h.sz⟩
      rcases List.mem_cons.mp hy with rfl | hy
      · exact ⟨a1, by omega, c1, d1, by omega⟩
      · exact ih.1 y hy
    · rintro ⟨h1, h2⟩
      rw [sz_cons] at h2
      have hx := h1 x List.mem_cons_self
      have ih := (Pvs.iff (m := m) (k := k) (xs := xs)).mpr ⟨fun y hy => h1 y (List.mem_cons_of_mem _ hy), by omega⟩
      refine ⟨?_, ?_, ?_, ?_, by rw [sz_cons]; exact h2⟩
      · show (x.plain && D.plains xs) = true
        rw [hx.pl, ih.pl]; rfl
      · show max x.py.depth (PyData.depthAll (D.pys xs)) ≤ k
        have := hx.dp; have := ih.dp; omega
      · show (x.py.showable && PyData.showableAll (D.pys xs)) = true
        rw [hx.sh, ih.sh]; rfl
      · show (rok x.py && roks (D.pys xs)) = true
        rw [hx.ok, ih.ok]; rfl
theorem Pvs.tup {m k : Nat} {xs : List D} (h : Pvs m k xs) : Pv (m + 4) (k + 1) (.tup xs) :=
  ⟨h.pl, Nat.succ_le_succ h.dp, h.sh, h.ok, Nat.add_le_add_right h.sz 4⟩
theorem Pvs.lst {m k : Nat} {xs : List D} (h : Pvs m k xs) : Pv (m + 4) (k + 1) (.lst xs) :=
  ⟨h.pl, Nat.succ_le_succ h.dp, h.sh, h.ok, Nat.add_le_add_right h.sz 4⟩
theorem Pv.tupI {m k : Nat} {xs : List D} (h : Pv m (k + 1) (.tup xs)) : Pvs m k xs :=
  ⟨h.pl, Nat.le_of_succ_le_succ h.dp, h.sh, h.ok, Nat.le_trans (Nat.le_add_right _ 4) h.sz⟩
theorem Pv.lstI {m k : Nat} {xs : List D} (h : Pv m (k + 1) (.lst xs)) : Pvs m k xs :=
  ⟨h.pl, Nat.le_of_succ_le_succ h.dp, h.sh, h.ok, Nat.le_trans (Nat.le_add_right _ 4) h.sz⟩
theorem Pvs.len {m k : Nat} {xs : List D} (h : Pvs m k xs) : xs.length ≤ m := by
  have := sz_len xs
  have := h.sz
  omega
theorem Pvs.each {m k : Nat} {xs : List D} (h : Pvs m k xs) : ∀ x ∈ xs, Pv m k x := (Pvs.iff.mp h).1
/-! ### what is due -/
def sh_str' (s : Str) : Bool := true
theorem Vl.tup {m k : Nat} {xs : List D} (h : Vl m (k + 1) (.tup xs)) : Pv m (k + 1) (.tup xs) := by
  rcases h with h | h
  · exact h
  · cases h
theorem tup_ne (xs : List D) : (D.tup xs).eqv (.tup []) = xs.isEmpty := by
  cases xs <;> simp [D.eqv, D.py, D.pys, PyData.eqv, PyData.eqvAll]
theorem find_take {p : D → Bool} {l : List D} (h : ∀ x ∈ l, p x = false) : l.find? p = none := List.find?_eq_none.mpr fun x hx q => by rw [h x hx] at q; cases q
theorem find_at {p : D → Bool} : ∀ {l : List D} {i : Nat} {x : D}, l[i]? = some x → (∀ y ∈ l.take i, p y = false) → p x = true → l.find? p = some x
  | a :: l, 0, x, h, _, q => by
    cases h
    rw [List.find?_cons, q]
  | a :: l, i + 1, x, h, k, q => by
    have ka : p a = false := k a (by rw [List.take_succ_cons]; exact List.mem_cons_self)
    rw [List.find?_cons, ka]
    exact find_at (l := l) (i := i) h (fun y hy => k y (by rw [List.take_succ_cons]; exact List.mem_cons_of_mem _ hy)) q
theorem p13 {ds : List D} {Q : D → Prop} {x : Xp} (h : Γ.phi 13 ds Q x) : wFn Γ N13 b13 ds Q x := by
  obtain ⟨m, w, g, hm, hv, rfl, hQ, hx⟩ := h
  rw [w13, ← vSs_eq]
  rcases tup_cases g hv.vB with ⟨rows, rfl⟩ | ⟨e, e2⟩
  rotate_left
  · have := hx sTable (by
      cases g with
      | tup xs => cases e2
      | _ => rfl)
    conv => whnf
    refine ⟨_, e, ?_⟩
    conv => whnf
    refine ⟨_, rfl, ?_⟩
    conv => whnf
    exact this
  have pv := hv.tup
  have pvs := pv.tupI
  have ll := pvs.len
  have each := pvs.each
  have eT : tabO w (.tup rows) = if (rows.isEmpty || !rows.all tupB) = true then some sTable else rows.find? fun r => !rowB rows.length w r := rfl
  rw [eT] at hQ hx
  conv => whnf
  refine ⟨true, isi_tup _, ?_⟩
  conv => whnf
  refine ⟨true, rfl, ?_⟩
  conv => whnf
  refine ⟨by decide, ?_⟩
  conv => whnf
  refine ⟨⟨pv.shp (by decide), tupnil_sh⟩, ?_⟩
  rw [tup_ne]
  cases eE : rows.isEmpty
  rotate_left
  · rw [eE] at hx
    exact hx _ rfl
  rw [eE, Bool.false_or] at hQ hx
  conv => whnf
  refine ⟨_, rfl, ?_⟩
  conv => whnf
  refine ⟨rfl, fun i acc => acc = (rows.take i).map fun d => .bl (tupB d), rfl, ?_, ?_⟩
  · rintro i d acc hd rfl
    have hm := (getLt hd).1
    conv => whnf
    refine ⟨true, rfl, rfl, acc_lt (by omega), ?_⟩
    have ei : dIsi d "tuple" = some (tupB d) := by
      rcases tup_cases d (each d hm).vB with ⟨ys, rfl⟩ | ⟨e, e2⟩
      · exact isi_tup _
      · rw [e, e2]
    conv => whnf
    refine ⟨_, ei, ?_⟩
    conv => whnf
    exact ⟨rfl, snocm (f := fun d => D.bl (tupB d)) hd rfl⟩
  rintro acc rfl
  rw [List.take_length]
  conv => whnf
  refine ⟨_, bools_map _ _, ?_⟩
  rw [List.all_map]
  have ea : rows.all (id ∘ tupB) = rows.all tupB := rfl
  rw [ea]
  cases eA : rows.all tupB
  · rw [eA] at hx
    conv => whnf
    refine ⟨_, rfl, ?_⟩
    conv => whnf
    exact hx _ rfl
  rw [eA] at hQ hx
  have hQ : (rows.find? fun r => !rowB rows.length w r) = none → Q .non := hQ
  have hx : ∀ p, (rows.find? fun r => !rowB rows.length w r) = some p → x 0 [p] := hx
  conv => whnf
  refine ⟨_, rfl, ?_⟩
  conv => whnf
  refine ⟨_, rfl, ?_⟩
  conv => whnf
  refine ⟨fun i ρ => (∀ y ∈ rows.take i, (!rowB rows.length w y) = false) ∧ ∃ o, ρ = [some (false, .int w), some (false, .tup rows), o], ⟨(fun y hy => nomatch hy), _, rfl⟩, ?_, ?_⟩
  · rintro i d _ hd ⟨hk, o, rfl⟩
    obtain ⟨hmem, hi⟩ := getLt hd
    obtain ⟨ys, rfl⟩ : ∃ ys, d = .tup ys := by
      have := List.all_eq_true.mp eA d hmem
      cases d with
      | tup ys => exact ⟨ys, rfl⟩
      | _ => cases this
    have pr := (each _ hmem).tupI
    conv => whnf
    refine ⟨rfl, (rows.length, w, ys), ⟨fun y hy => (pr.each y hy).vB, Nat.le_trans pr.len (by omega), rfl⟩, fun z hz => ?_⟩
    cases hz
    conv => whnf
    refine ⟨_, rfl, ?_⟩
    cases eR : rowB rows.length w (.tup ys)
    · exact hx _ (find_at hd hk (by rw [eR]; rfl))
    · refine ⟨fun y hy => ?_, _, rfl⟩
      rw [take_next hd] at hy
      rcases List.mem_append.mp hy with hy | hy
      · exact hk y hy
      · rw [List.mem_singleton.mp hy, eR]; rfl
  · rintro _ ⟨hk, o, rfl⟩
    rw [List.take_length] at hk
    exact hQ (find_take hk)
theorem ascD_all : ∀ (n : Int) (l : List D), l.all (stD n) = true → ∃ ns : List Int, l = ns.map .int
  | _, [], _ => ⟨[], rfl⟩
  | n, d :: l, h => by
    obtain ⟨h1, h2⟩ := (Bool.and_eq_true _ _).mp (show (stD n d && l.all (stD n)) = true from h)
    obtain ⟨ns, rfl⟩ := ascD_all n l h2
    cases d with
    | int i => exact ⟨i :: ns, rfl⟩
    | _ => cases h1
theorem ascD_zip : ∀ ns : List Int, ((ns.zip (ns.drop 1)).map fun p => decide (p.1 < p.2)).all id = ascD (ns.map .int)
  | [] => rfl
  | [a] => rfl
  | a :: b :: r => by
    have ih := ascD_zip (b :: r)
    have e : (a :: b :: r).zip ((a :: b :: r).drop 1) = (a, b) :: (b :: r).zip ((b :: r).drop 1) := rfl
    rw [e, List.map_cons, List.all_cons, ih]
    rfl
theorem p14 {ds : List D} {Q : D → Prop} {x : Xp} (h : Γ.phi 14 ds Q x) : wFn Γ N14 b14 ds Q x := by
  obtain ⟨⟨m, n, a⟩, h1, hQ⟩ := h
  obtain ⟨hm, hv, rfl⟩ : m ≤ 100000 ∧ Vl m 3 a ∧ ds = [.int n, a] := h1
  have hQ : Q (.bl (accB n a)) := hQ _ rfl
  rw [w14, ← vSs_eq]
  rcases tup_cases a hv.vB with ⟨xs, rfl⟩ | ⟨e, e2⟩
  rotate_left
  · have q : accB n a = false := by
      cases a with
      | tup xs => cases e2
      | _ => rfl
    rw [q] at hQ
    conv => whnf
    refine ⟨_, e, ?_⟩
    conv => whnf
    exact ⟨_, rfl, hQ⟩
  have pvs := hv.tup.tupI
  have ll := pvs.len
  have hQ : Q (.bl (xs.all (stD n) && ascD xs)) := hQ
  conv => whnf
  refine ⟨true, isi_tup _, ?_⟩
  conv => whnf
  refine ⟨true, rfl, ?_⟩
  conv => whnf
  refine ⟨_, rfl, ?_⟩
  conv => whnf
  refine ⟨rfl, fun i acc => acc = (xs.take i).map fun d => .bl (stD n d), rfl, ?_, ?_⟩
  · rintro i d acc hd rfl
    have hm := (getLt hd).1
    conv => whnf
    refine ⟨true, rfl, rfl, acc_lt (by omega), ?_⟩
    conv => whnf
    refine ⟨rfl, (n, d), ⟨(pvs.each d hm).vB, rfl⟩, fun z hz => ?_⟩
    cases hz
    exact ⟨rfl, snocm (f := fun d => D.bl (stD n d)) hd rfl⟩
  rintro acc rfl
  rw [List.take_length]
  conv => whnf
  refine ⟨_, bools_map _ _, ?_⟩
  rw [List.all_map]
  have ea : xs.all (id ∘ stD n) = xs.all (stD n) := rfl
  rw [ea]
  cases eA : xs.all (stD n)
  · rw [eA] at hQ
    conv => whnf
    refine ⟨_, rfl, ?_⟩
    exact hQ
  rw [eA, Bool.true_and] at hQ
  obtain ⟨ns, rfl⟩ := ascD_all n xs eA
  rw [List.length_map] at ll
  rw [← ascD_zip] at hQ
  conv => whnf
  refine ⟨_, rfl, ?_⟩
  conv => whnf
  refine ⟨1, rfl, ?_⟩
  conv => whnf
  refine ⟨_, _, rfl, rfl, ?_⟩
  rw [cutI, zipN]
  conv => whnf
  refine ⟨rfl, fun i acc => acc = ((ns.zip (ns.drop 1)).take i).map fun p => .bl (decide (p.1 < p.2)), rfl, ?_, ?_⟩
  · rintro i d acc hd rfl
    obtain ⟨⟨a, b⟩, he, rfl⟩ := map_get hd
    conv => whnf
    refine ⟨rfl, ?_⟩
    conv => whnf
    refine ⟨true, rfl, rfl, acc_lt (by rw [List.length_zip]; omega), ?_⟩
    conv => whnf
    exact ⟨rfl, snocm (f := fun p : Int × Int => D.bl (decide (p.1 < p.2))) he rfl⟩
  rintro acc rfl
  rw [take_all]
  conv => whnf
  exact ⟨_, bools_map _ _, hQ⟩
theorem rows_eqv : ∀ l l' : List (List Int), PyData.eqvAll (D.pys (l.map rowT)) (D.pys (l'.map rowT)) = true ↔ l = l'
  | [], [] => by simp [D.pys, PyData.eqvAll]
  | [], _ :: _ => by simp [D.pys, PyData.eqvAll]
  | _ :: _, [] => by simp [D.pys, PyData.eqvAll]
  | a :: l, b :: l' => by
    have h1 := rows_eqv l l'
    have h2 := ints_eqv a b
    simp only [List.map_cons, rowT, D.pys, D.py, PyData.eqvAll, PyData.eqv, Bool.and_eq_true, List.cons.injEq, h2]
    exact and_congr Iff.rfl h1
theorem ps_eqv (P P' : Bk) : (D.tup P.ps).eqv (.tup P'.ps) = true ↔ P = P' := by
  obtain ⟨A, B, T, F⟩ := P
  obtain ⟨A', B', T', F'⟩ := P'
  have h1 := rows_eqv T T'
  have h2 := ints_eqv F F'
  simp only [Bk.ps, Bk.tab, Bk.fin, D.eqv, D.pys, D.py, PyData.eqvAll, PyData.eqv, Bool.and_eq_true, beq_iff_eq, Bool.and_true, h1, h2, Bk.mk.injEq]
theorem ps_sh (P : Bk) : (D.tup P.ps).shaped = true := by
  obtain ⟨a, b⟩ := rows_plain P.T
  obtain ⟨c, d⟩ := flats_plain (ints_flat P.F)
  have : (D.tup P.ps).plain = true := by
    show (true && (true && ((D.plains (P.T.map rowT)) && (D.plains (P.F.map .int) && true)))) = true
    rw [a, c]; rfl
  unfold D.shaped
  rw [this]
  refine decide_eq_true ?_
  show max 0 (max 0 (max (PyData.depthAll (D.pys (P.T.map rowT)) + 1) (max (PyData.depthAll (D.pys (P.F.map .int)) + 1) 0))) + 1 ≤ 60
  omega
theorem alD_str {d : D} (h : alD d = true) : ∃ s, d = .str s ∧ 1 ≤ s.length ∧ s.length ≤ 2 := by
  cases d with
  | str s =>
    have := alB_len (show alB s.cps.toList = true from h)
    rw [t_len] at this
    exact ⟨s, rfl, this⟩
  | _ => cases h
theorem due_l {l r g a : D} (h : alD l = false) : dueO l r g a = some sSet := by unfold dueO; rw [if_pos h]
theorem due_r {l r g a : D} (h : alD l = true) (k : alD r = false) : dueO l r g a = some sRows := by unfold dueO; rw [if_neg (by rw [h]; decide), if_pos k]
theorem due_g {l r g a : D} (h : alD l = true) (k : alD r = true) : dueO l r g a = match tabO (wdD l r) g with
    | some p => some p
    | none => if accB (items g).length a = true then none else some sAcc := by unfold dueO; rw [if_neg (by rw [h]; decide), if_neg (by rw [k]; decide)]; all_goals rfl
theorem tab_tup {w : Int} {g : D} (h : tabO w g = none) : ∃ xs, g = .tup xs := by
  cases g with
  | tup xs => exact ⟨xs, rfl⟩
  | _ => cases h
theorem p15 {ds : List D} {Q : D → Prop} {x : Xp} (h : Γ.phi 15 ds Q x) : wIn Γ 0 N15 b15 [1, 2, 3, 4] ds Q x := by
  obtain ⟨m, l, r, g, a, hm, pt, rfl, hQ, hx⟩ := h
  rw [w15]
  intro i
  rw [← vSs_eq]
  conv => whnf
  refine ⟨rfl, l, ⟨pt.l.vB, rfl⟩, fun z hz => ?_⟩
  cases hz
  conv => whnf
  refine ⟨_, rfl, ?_⟩
  cases el : alD l
  · exact hx _ (due_l el)
  conv => whnf
  refine ⟨rfl, r, ⟨pt.r.vB, rfl⟩, fun z hz => ?_⟩
  cases hz
  conv => whnf
  refine ⟨_, rfl, ?_⟩
  cases er : alD r
  · exact hx _ (due_r el er)
  rw [due_g el er] at hQ hx
  obtain ⟨s, rfl, s1, s2⟩ := alD_str el
  obtain ⟨t, rfl, t1, t2⟩ := alD_str er
  conv => whnf
  refine ⟨mul_ok (by omega) (by omega), ?_⟩
  conv => whnf
  refine ⟨rfl, m, wdD (.str s) (.str t), g, hm, pt.g, rfl, fun e => ?_, fun p e => ?_⟩
  rotate_left
  · rw [e] at hx
    exact hx p rfl
  rw [e] at hQ hx
  obtain ⟨xs, rfl⟩ := tab_tup e
  have hQ : (if accB xs.length a = true then none else some sAcc) = none → Q (.obj 0 [.str s, .str t, .tup xs, a]) := hQ
  have hx : ∀ p, (if accB xs.length a = true then none else some sAcc) = some p → x 0 [p] := hx
  conv => whnf
  refine ⟨rfl, (m, xs.length, a), ⟨hm, pt.a, rfl⟩, fun z hz => ?_⟩
  cases hz
  conv => whnf
  refine ⟨_, rfl, ?_⟩
  cases ea : accB xs.length a
  · rw [ea] at hx
    exact hx _ rfl
  · rw [ea] at hQ
    conv => whnf
    exact ⟨rfl, [_, _, _, _], rfl, hQ rfl⟩
theorem szl_filter (p : D → Bool) : ∀ xs : List D, szl (xs.filter p) ≤ szl xs
  | [] => Nat.le_refl _
  | x :: xs => by
    have := szl_filter p xs
    rw [List.filter_cons]
    split
    · rw [sz_cons, sz_cons]; omega
    · rw [sz_cons]; omega
theorem Pvs.filter {m k : Nat} {xs : List D} (h : Pvs m k xs) (p : D → Bool) : Pvs m k (xs.filter p) := Pvs.iff.mpr ⟨fun x hx => h.each x (List.mem_filter.mp hx).1, Nat.le_trans (szl_filter p xs) h.sz⟩
theorem filt_id {p : D → Bool} (l : List D) : (l.filter p).isEmpty = l.all fun a => !p a := by
  have := filt_nil (f := id) (p := p) l
  rw [List.map_id] at this
  exact this
theorem one_flat {α : Type} (l : List α) : (l.map fun _ => D.int 1).all D.flat = true := by
  rw [List.all_map]
  exact List.all_eq_true.mpr fun _ _ => rfl
theorem all_nn {α : Type} (p : α → Bool) (l : List α) : (l.all fun a => !!p a) = l.all p := by
  congr 1
  funext a
  exact Bool.not_not _
theorem p7 {ds : List D} {Q : D → Prop} {x : Xp} (h : Γ.phi 7 ds Q x) : wFn Γ N7 b7 ds Q x := by
  obtain ⟨⟨m, l, r, g, a⟩, h1, hQ⟩ := h
  obtain ⟨hm, pt, rfl⟩ : m ≤ 100000 ∧ Prt m l r g a ∧ ds = [.lst [l, r, g, a]] := h1
  have hQ : Q (.lst (oL (dueO l r g a))) := hQ _ rfl
  rw [w7, ← vSs_eq]
  conv => whnf
  refine ⟨rfl, ?_⟩
  conv => whnf
  refine ⟨rfl, l, ⟨pt.l.vB, rfl⟩, fun z hz => ?_⟩
  cases hz
  conv => whnf
  refine ⟨_, rfl, ?_⟩
  cases el : alD l
  · rw [due_l el] at hQ
    conv => whnf
    refine ⟨rfl, l, ⟨pt.l.vB, rfl⟩, fun z hz => ?_⟩
    cases hz
    conv => whnf
    refine ⟨_, rfl, ?_⟩
    rw [el]
    conv => whnf
    exact ⟨by show 1 ≤ sizeLine; decide, hQ⟩
  conv => whnf
  refine ⟨rfl, r, ⟨pt.r.vB, rfl⟩, fun z hz => ?_⟩
  cases hz
  conv => whnf
  refine ⟨_, rfl, ?_⟩
  cases er : alD r
  · rw [due_r el er] at hQ
    conv => whnf
    refine ⟨rfl, l, ⟨pt.l.vB, rfl⟩, fun z hz => ?_⟩
    cases hz
    conv => whnf
    refine ⟨_, rfl, ?_⟩
    rw [el]
    conv => whnf
    exact ⟨by show 1 ≤ sizeLine; decide, hQ⟩
  rw [due_g el er] at hQ
  obtain ⟨s, rfl, s1, s2⟩ := alD_str el
  obtain ⟨t, rfl, t1, t2⟩ := alD_str er
  rcases tup_cases g pt.g.vB with ⟨rows, rfl⟩ | ⟨e, e2⟩
  rotate_left
  · have q : tabO (wdD (.str s) (.str t)) g = some sTable := by
      cases g with
      | tup xs => cases e2
      | _ => rfl
    rw [q] at hQ
    conv => whnf
    refine ⟨_, e, ?_⟩
    conv => whnf
    refine ⟨_, rfl, ?_⟩
    conv => whnf
    exact ⟨by show 1 ≤ sizeLine; decide, hQ⟩
  have pv := pt.g.tup
  have pvs := pv.tupI
  have ll := pvs.len
  have each := pvs.each
  have eT : ∀ w, tabO w (.tup rows) = if (rows.isEmpty || !rows.all tupB) = true then some sTable else rows.find? fun r => !rowB rows.length w r := fun _ => rfl
  rw [eT] at hQ
  conv => whnf
  refine ⟨true, isi_tup _, ?_⟩
  conv => whnf
  refine ⟨true, rfl, ?_⟩
  conv => whnf
  refine ⟨by decide, ?_⟩
  conv => whnf
  refine ⟨⟨pv.shp (by decide), tupnil_sh⟩, ?_⟩
  rw [tup_ne]
  cases eE : rows.isEmpty
  rotate_left
  · rw [eE] at hQ
    conv => whnf
    exact ⟨by show 1 ≤ sizeLine; decide, hQ⟩
  rw [eE, Bool.false_or] at hQ
  conv => whnf
  refine ⟨_, rfl, ?_⟩
  conv => whnf
  refine ⟨rfl, fun i acc => acc = (rows.take i).filter fun d => !tupB d, rfl, ?_, ?_⟩
  · rintro i d acc hd rfl
    have hm := (getLt hd).1
    have ei : dIsi d "tuple" = some (tupB d) := by
      rcases tup_cases d (each d hm).vB with ⟨ys, rfl⟩ | ⟨e, e2⟩
      · exact isi_tup _
      · rw [e, e2]
    conv => whnf
    refine ⟨_, ei, ?_⟩
    conv => whnf
    refine ⟨_, rfl, rfl, ?_⟩
    have f1 := filt_t (f := id) (p := fun d => !tupB d) hd
    have f2 := filt_f (f := id) (p := fun d => !tupB d) hd
    simp only [List.map_id] at f1 f2
    cases eb : tupB d
    · conv => whnf
      refine ⟨?_, ?_⟩
      · have := List.length_filter_le (fun d => !tupB d) (rows.take i)
        rw [List.length_take] at this
        exact Nat.lt_of_le_of_lt this (Nat.lt_of_lt_of_le (show _ < 100001 by omega) (by decide))
      conv => whnf
      exact ⟨rfl, f1 (by rw [eb]; rfl)⟩
    · exact f2 (by rw [eb]; rfl)
  rintro acc rfl
  rw [List.take_length]
  conv => whnf
  refine ⟨by decide, ?_⟩
  conv => whnf
  refine ⟨⟨((pvs.filter _).lst).shp (by decide), sh_nil⟩, ?_⟩
  rw [eqv_nil, filt_id, all_nn]
  cases eA : rows.all tupB
  · rw [eA] at hQ
    conv => whnf
    exact ⟨by show 1 ≤ sizeLine; decide, hQ⟩
  rw [eA] at hQ
  have hQ : Q (.lst (oL (match (rows.find? fun r => !rowB rows.length (wdD (.str s) (.str t)) r) with
    | some p => some p
    | none => if accB rows.length a = true then none else some sAcc))) := hQ
  conv => whnf
  refine ⟨mul_ok (by omega) (by omega), ?_⟩
  conv => whnf
  refine ⟨_, rfl, ?_⟩
  have ew : (((s.length : Nat) : Int) + 1) * (((t.length : Nat) : Int) + 1) - 1 = wdD (.str s) (.str t) := rfl
  rw [ew]
  generalize wdD (.str s) (.str t) = w at hQ ⊢
  refine ⟨fun i ρ => (∀ y ∈ rows.take i, (!rowB rows.length w y) = false) ∧ ∃ o, ρ = [some (false, .lst [.str s, .str t, .tup rows, a]), some (false, .str s), some (false, .str t), some (false, .tup rows), some (false, a), some (false, .int w), o, none, none, none, none], ⟨(fun y hy => nomatch hy), _, rfl⟩, ?_, ?_⟩
  · rintro i d _ hd ⟨hk, o, rfl⟩
    obtain ⟨hmem, hi⟩ := getLt hd
    obtain ⟨ys, rfl⟩ : ∃ ys, d = .tup ys := by
      have := List.all_eq_true.mp eA d hmem
      cases d with
      | tup ys => exact ⟨ys, rfl⟩
      | _ => cases this
    have pr := (each _ hmem).tupI
    have yl := pr.len
    have er : rowB rows.length w (.tup ys) = (decide ((ys.length : Int) = w) && ys.all (stD rows.length)) := rfl
    have bad : rowB rows.length w (.tup ys) = false → Q (.lst [.tup ys]) := fun e => by
      rw [find_at hd hk (by rw [e]; rfl)] at hQ
      exact hQ
    have good : rowB rows.length w (.tup ys) = true → ∀ y ∈ rows.take (i + 1), (!rowB rows.length w y) = false := fun e y hy => by
      rw [take_next hd] at hy
      rcases List.mem_append.mp hy with hy | hy
      · exact hk y hy
      · rw [List.mem_singleton.mp hy, e]; rfl
    rw [er] at bad good
    conv => whnf
    refine ⟨⟨sh_int _, sh_int _⟩, ?_⟩
    rw [eqv_int]
    show br (!decide ((ys.length : Int) = w)) _ _
    cases eW : decide ((ys.length : Int) = w)
    · rw [eW] at bad
      conv => whnf
      exact ⟨by show 1 ≤ sizeLine; decide, bad rfl⟩
    rw [eW, Bool.true_and] at bad good
    conv => whnf
    refine ⟨_, rfl, rfl, fun j acc => acc = ((ys.take j).filter fun d => !stD rows.length d).map fun _ => .int 1, rfl, ?_, ?_⟩
    · rintro j d acc hd rfl
      have hm := (getLt hd).1
      conv => whnf
      refine ⟨rfl, (rows.length, d), ⟨(pr.each d hm).vB, rfl⟩, fun z hz => ?_⟩
      cases hz
      conv => whnf
      refine ⟨_, rfl, rfl, ?_⟩
      cases eb : stD rows.length d
      · conv => whnf
        refine ⟨facc_lt (by omega), ?_⟩
        conv => whnf
        exact ⟨rfl, filt_t (f := fun _ => D.int 1) (p := fun d => !stD rows.length d) hd (by rw [eb]; rfl)⟩
      · exact filt_f (f := fun _ => D.int 1) (p := fun d => !stD rows.length d) hd (by rw [eb]; rfl)
    rintro acc rfl
    rw [List.take_length]
    conv => whnf
    refine ⟨by decide, ?_⟩
    conv => whnf
    refine ⟨⟨sh_flats (one_flat _), sh_nil⟩, ?_⟩
    rw [eqv_nil, filt_nil, all_nn]
    cases eS : ys.all (stD rows.length)
    · conv => whnf
      exact ⟨by show 1 ≤ sizeLine; decide, bad eS⟩
    · exact ⟨good eS, _, rfl⟩
  rintro _ ⟨hk, o, rfl⟩
  rw [List.take_length] at hk
  rw [find_take hk] at hQ
  have hQ : Q (.lst (oL (if accB rows.length a = true then none else some sAcc))) := hQ
  rcases tup_cases a pt.a.vB with ⟨xs, rfl⟩ | ⟨e, e2⟩
  rotate_left
  · have q : accB rows.length a = false := by
      cases a with
      | tup xs => cases e2
      | _ => rfl
    rw [q] at hQ
    conv => whnf
    refine ⟨_, e, ?_⟩
    conv => whnf
    refine ⟨_, rfl, ?_⟩
    conv => whnf
    exact ⟨by show 1 ≤ sizeLine; decide, hQ⟩
  have pa := pt.a.tup.tupI
  have al := pa.len
  have hQ : Q (.lst (oL (if (xs.all (stD rows.length) && ascD xs) = true then none else some sAcc))) := hQ
  conv => whnf
  refine ⟨true, isi_tup _, ?_⟩
  conv => whnf
  refine ⟨true, rfl, ?_⟩
  conv => whnf
  refine ⟨_, rfl, rfl, fun j acc => acc = ((xs.take j).filter fun d => !stD rows.length d).map fun _ => .int 1, rfl, ?_, ?_⟩
  · rintro j d acc hd rfl
    have hm := (getLt hd).1
    conv => whnf
    refine ⟨rfl, (rows.length, d), ⟨(pa.each d hm).vB, rfl⟩, fun z hz => ?_⟩
    cases hz
    conv => whnf
    refine ⟨_, rfl, rfl, ?_⟩
    cases eb : stD rows.length d
    · conv => whnf
      refine ⟨facc_lt (by omega), ?_⟩
      conv => whnf
      exact ⟨rfl, filt_t (f := fun _ => D.int 1) (p := fun d => !stD rows.length d) hd (by rw [eb]; rfl)⟩
    · exact filt_f (f := fun _ => D.int 1) (p := fun d => !stD rows.length d) hd (by rw [eb]; rfl)
  rintro acc rfl
  rw [List.take_length]
  conv => whnf
  refine ⟨by decide, ?_⟩
  conv => whnf
  refine ⟨⟨sh_flats (one_flat _), sh_nil⟩, ?_⟩
  rw [eqv_nil, filt_nil, all_nn]
  cases eS : xs.all (stD rows.length)
  · rw [eS] at hQ
    conv => whnf
    exact ⟨by show 1 ≤ sizeLine; decide, hQ⟩
  rw [eS, Bool.true_and] at hQ
  obtain ⟨ns, rfl⟩ := ascD_all _ xs eS
  rw [List.length_map] at al
  conv => whnf
  refine ⟨1, rfl, ?_⟩
  conv => whnf
  refine ⟨_, _, rfl, rfl, ?_⟩
  rw [cutI, zipN]
  conv => whnf
  refine ⟨rfl, fun i acc => acc = (((ns.zip (ns.drop 1)).take i).filter fun p => !decide (p.1 < p.2)).map fun _ => .int 1, rfl, ?_, ?_⟩
  · rintro i d acc hd rfl
    obtain ⟨⟨u, v⟩, he, rfl⟩ := map_get hd
    conv => whnf
    refine ⟨rfl, ?_⟩
    conv => whnf
    refine ⟨rfl, ?_⟩
    cases eb : decide (u < v)
    · conv => whnf
      refine ⟨facc_lt (by rw [List.length_zip]; omega), ?_⟩
      conv => whnf
      exact ⟨rfl, filt_t (f := fun _ => D.int 1) (p := fun p : Int × Int => !decide (p.1 < p.2)) he (by show (!decide (u < v)) = true; rw [eb]; rfl)⟩
    · exact filt_f (f := fun _ => D.int 1) (p := fun p : Int × Int => !decide (p.1 < p.2)) he (by show (!decide (u < v)) = false; rw [eb]; rfl)
  rintro acc rfl
  rw [filt_all]
  conv => whnf
  refine ⟨by decide, ?_⟩
  conv => whnf
  refine ⟨⟨sh_flats (one_flat _), sh_nil⟩, ?_⟩
  rw [eqv_nil, filt_nil, all_nn]
  have ea : ((ns.zip (ns.drop 1)).all fun p => decide (p.1 < p.2)) = ascD (ns.map .int) := by
    rw [← ascD_zip, List.all_map]; rfl
  rw [ea]
  conv => whnf
  refine ⟨_, rfl, ?_⟩
  cases eb : ascD (ns.map .int)
  · rw [eb] at hQ
    conv => whnf
    exact ⟨by show 1 ≤ sizeLine; decide, hQ⟩
  · rw [eb] at hQ
    conv => whnf
    exact ⟨by show 0 ≤ sizeLine; decide, hQ⟩
theorem p17 {ds : List D} {Q : D → Prop} {x : Xp} (h : Γ.phi 17 ds Q x) : wFn Γ N17 b17 ds Q x := by
  obtain ⟨⟨⟨m, l, r, g, a⟩, b⟩, h1, hQ⟩ := h
  obtain ⟨hm, pt, rfl⟩ : m ≤ 100000 ∧ Prt m l r g a ∧ ds = [.lst [l, r, g, a], .bl b] := h1
  have hQ : Q (.lst (madeL l r g a)) := hQ _ rfl
  rw [w17, ← vSs_eq]
  have made : dueO l r g a = none → (∃ xs, g = .tup xs ∧ xs.length ≤ 100000) ∧ Q (.lst [.str (Str.ofString "made"), l, r, g, a, .int (items g).length]) := fun e => by
    unfold madeL at hQ
    rw [e] at hQ
    refine ⟨?_, hQ⟩
    cases el : alD l
    · rw [due_l el] at e; cases e
    cases er : alD r
    · rw [due_r el er] at e; cases e
    rw [due_g el er] at e
    cases eT : tabO (wdD l r) g with
    | some p => rw [eT] at e; cases e
    | none =>
      obtain ⟨xs, rfl⟩ := tab_tup eT
      have := pt.g.tup.tupI.len
      exact ⟨xs, rfl, by omega⟩
  have bad : ∀ p, dueO l r g a = some p → Q (.lst [.str (Str.ofString "bad"), p]) := fun p e => by
    unfold madeL at hQ
    rw [e] at hQ
    exact hQ
  conv => whnf
  refine ⟨rfl, ?_⟩
  conv => whnf
  refine ⟨_, rfl, ?_⟩
  refine br_of (fun eb => ?_) fun eb => ?_
  · conv => whnf
    refine ⟨rfl, rfl, ?_⟩
    conv => whnf
    refine ⟨m, l, r, g, a, hm, pt, rfl, fun e => ?_, fun p e => ?_⟩
    · obtain ⟨⟨xs, rfl, xl⟩, hq⟩ := made e
      conv => whnf
      refine ⟨_, _, rfl, rfl, ?_⟩
      conv => whnf
      refine ⟨_, _, rfl, rfl, ?_⟩
      conv => whnf
      refine ⟨_, _, rfl, rfl, ?_⟩
      conv => whnf
      refine ⟨_, _, rfl, rfl, ?_⟩
      conv => whnf
      refine ⟨⟨_, rfl⟩, rfl, (l, r, xs, a), rfl, fun z hz => ⟨_, hz, ⟨Int.natCast_nonneg _, by show ((xs.length : Nat) : Int) < 2 ^ 63; omega⟩, ?_⟩⟩
      cases hz
      conv => whnf
      exact ⟨by show 6 ≤ sizeLine; decide, hq⟩
    · have := bad p e
      conv => whnf
      exact ⟨rfl, _, rfl, this⟩
  · conv => whnf
    refine ⟨rfl, ?_⟩
    conv => whnf
    refine ⟨m, l, r, g, a, hm, pt, rfl, fun e => ?_, fun p e => ?_⟩
    · obtain ⟨⟨xs, rfl, xl⟩, hq⟩ := made e
      conv => whnf
      refine ⟨_, _, rfl, rfl, ?_⟩
      conv => whnf
      refine ⟨_, _, rfl, rfl, ?_⟩
      conv => whnf
      refine ⟨_, _, rfl, rfl, ?_⟩
      conv => whnf
      refine ⟨_, _, rfl, rfl, ?_⟩
      conv => whnf
      refine ⟨⟨_, rfl⟩, rfl, (l, r, xs, a), rfl, fun z hz => ⟨_, hz, ⟨Int.natCast_nonneg _, by show ((xs.length : Nat) : Int) < 2 ^ 63; omega⟩, ?_⟩⟩
      cases hz
      conv => whnf
      exact ⟨by show 6 ≤ sizeLine; decide, hq⟩
    · have := bad p e
      conv => whnf
      exact ⟨rfl, _, rfl, this⟩
theorem p20 {ds : List D} {Q : D → Prop} {x : Xp} (h : Γ.phi 20 ds Q x) : wIn Γ 1 N20 b20 [1, 2] ds Q x := by
  obtain ⟨⟨b, w⟩, rfl, hQ⟩ := h
  have hQ : Q (.obj 1 [b, w]) := hQ _ rfl
  rw [w20]
  intro i
  rw [← vSs_eq]
  conv => whnf
  exact ⟨rfl, [_, _], rfl, hQ⟩
theorem p21 {ds : List D} {Q : D → Prop} {x : Xp} (h : Γ.phi 21 ds Q x) : wFn Γ N21 b21 ds Q x := by
  obtain ⟨A, fs, d, wy, rfl, hQ, hx⟩ := h
  rw [w21, ← vSs_eq]
  conv => whnf
  refine ⟨_, _, rfl, rfl, ?_⟩
  conv => whnf
  refine ⟨rfl, (A, d), ⟨wy, rfl⟩, fun z hz => ?_⟩
  cases hz
  conv => whnf
  refine ⟨_, rfl, ?_⟩
  cases e : wrd A d
  · exact hx e
  · conv => whnf
    refine ⟨rfl, (.obj 0 (.str A :: fs), d), rfl, fun z hz => ?_⟩
    cases hz
    exact hQ e
theorem p22 {ds : List D} {Q : D → Prop} {x : Xp} (h : Γ.phi 22 ds Q x) : wFn Γ N22 b22 ds Q x := by
  obtain ⟨⟨fs, d⟩, h1, hQ⟩ := h
  obtain ⟨⟨sh, l4⟩, or, rfl⟩ : ((D.tup fs).shaped = true ∧ fs.length = 4) ∧ ((∃ gs, d = .obj 0 gs ∧ (D.tup gs).shaped = true ∧ gs.length = 4) ∨ vB d = true) ∧ ds = [.obj 0 fs, d] := h1
  have hQ : Q (.bl (eqO fs d)) := hQ _ rfl
  rw [w22, ← vSs_eq]
  rcases or with ⟨gs, rfl, sh2, l42⟩ | hv
  · match fs, l4, gs, l42 with
    | [f0, f1, f2, f3], _, [g0, g1, g2, g3], _ =>
      conv => whnf
      refine ⟨true, rfl, ?_⟩
      conv => whnf
      refine ⟨_, rfl, ?_⟩
      conv => whnf
      refine ⟨_, _, rfl, rfl, ?_⟩
      conv => whnf
      refine ⟨_, _, rfl, rfl, ?_⟩
      conv => whnf
      refine ⟨_, _, rfl, rfl, ?_⟩
      conv => whnf
      refine ⟨_, _, rfl, rfl, ?_⟩
      conv => whnf
      refine ⟨by show 4 ≤ sizeLine; decide, ?_⟩
      conv => whnf
      refine ⟨_, _, rfl, rfl, ?_⟩
      conv => whnf
      refine ⟨_, _, rfl, rfl, ?_⟩
      conv => whnf
      refine ⟨_, _, rfl, rfl, ?_⟩
      conv => whnf
      refine ⟨_, _, rfl, rfl, ?_⟩
      conv => whnf
      refine ⟨by show 4 ≤ sizeLine; decide, ?_⟩
      conv => whnf
      exact ⟨⟨sh, sh2⟩, hQ⟩
  · have e1 : dIsc 0 d = some false := by
      cases d with
      | obj c gs => cases hv
      | atom i => cases hv
      | _ => rfl
    have e2 : eqO fs d = false := by
      cases d with
      | obj c gs => cases hv
      | _ => rfl
    rw [e2] at hQ
    conv => whnf
    refine ⟨_, e1, ?_⟩
    conv => whnf
    exact ⟨_, rfl, hQ⟩
theorem p23 {ds : List D} {Q : D → Prop} {x : Xp} (h : Γ.phi 23 ds Q x) : wFn Γ N23 b23 ds Q x := by
  obtain ⟨⟨P, d⟩, h1, hQ⟩ := h
  obtain ⟨ok, wy, rfl⟩ : P.Ok ∧ wordy d ∧ ds = [P.book, d] := h1
  have hQ : Q (.lst (fiL P.A d)) := hQ _ rfl
  unfold fiL at hQ
  rw [w23, ← vSs_eq]
  conv => whnf
  refine ⟨⟨_, _, rfl⟩, rfl, ?_⟩
  refine ⟨P.A, [.str P.B, P.tab, P.fin], d, wy, rfl, fun e => ?_, fun e => ?_⟩
  · rw [if_pos e] at hQ
    conv => whnf
    refine ⟨_, _, rfl, rfl, ?_⟩
    conv => whnf
    refine ⟨_, _, rfl, rfl, ?_⟩
    conv => whnf
    refine ⟨⟨_, _, rfl⟩, rfl, (P.ps, P.book), ⟨⟨ps_sh P, rfl⟩, .inl ⟨P.ps, rfl, ps_sh P, rfl⟩, rfl⟩, fun z hz => ⟨_, hz, ?_⟩⟩
    have e3 : eqO P.ps P.book = true := (ps_eqv P P).mpr rfl
    cases hz
    rw [e3]
    conv => whnf
    exact ⟨by show 3 ≤ sizeLine; decide, hQ⟩
  · rw [if_neg (by rw [e]; decide)] at hQ
    conv => whnf
    exact ⟨rfl, _, rfl, hQ⟩
/-! ### drawn values -/
theorem Pvs.cut {m k : Nat} {xs : List D} (h : Pvs m k xs) (lo hi : Option Int) : Pvs m k (cutD xs lo hi) := by
  refine Pvs.iff.mpr ⟨fun x hx => h.each x (cutD_mem hx), ?_⟩
  have key : ∀ (l : List D) (i : Nat), szl (l.take i) ≤ szl l ∧ szl (l.drop i) ≤ szl l := fun l i => by
    have := sz_app (l.take i) (l.drop i)
    rw [List.take_append_drop] at this
    omega
  have a := (key xs (HT.sIx xs.length 0 lo)).2
  have b := (key (xs.drop (HT.sIx xs.length 0 lo)) (HT.sIx xs.length xs.length hi - HT.sIx xs.length 0 lo)).1
  have := h.sz
  unfold cutD
  omega
theorem Pvs.app {m m' k : Nat} {xs ys : List D} (h : Pvs m k xs) (h' : Pvs m' k ys) : Pvs (m + m') k (xs ++ ys) := by
  refine Pvs.iff.mpr ⟨fun x hx => ?_, ?_⟩
  · rcases List.mem_append.mp hx with hx | hx
    · exact (h.each x hx).mono (Nat.le_add_right _ _) (Nat.le_refl _)
    · exact (h'.each x hx).mono (Nat.le_add_left _ _) (Nat.le_refl _)
  · rw [sz_app]
    have := h.sz
    have := h'.sz
    omega
theorem Pvs.one {m k : Nat} {x : D} (h : Pv m k x) : Pvs (m + 2) k [x] := by
  refine Pvs.iff.mpr ⟨fun y hy => ?_, ?_⟩
  · rw [List.mem_singleton.mp hy]
    exact h.mono (Nat.le_add_right _ _) (Nat.le_refl _)
  · rw [sz_cons, sz_nil]
    have := h.sz
    omega
theorem Pvs.mono {m k m' k' : Nat} {xs : List D} (h : Pvs m k xs) (h1 : m ≤ m') (h2 : k ≤ k') : Pvs m' k' xs := ⟨h.pl, Nat.le_trans h.dp h2, h.sh, h.ok, Nat.le_trans h.sz h1⟩
theorem pv_int {n : Int} {k : Nat} (h0 : 0 ≤ n) (h1 : n < 1000000) : Pv 6 k (.int n) :=
  ⟨rfl, Nat.zero_le _, decide_eq_true (num_log h0 (by omega)), rfl, num_len h0 (by decide) (by omega)⟩
theorem pv_str {s : Str} {m k : Nat} (h : s.length ≤ m) (h2 : ∀ c ∈ s.cps.toList, c < 4294967296) : Pv (10 * m + 2) k (.str s) :=
  ⟨rfl, Nat.zero_le _, rfl, List.all_eq_true.mpr fun c hc => decide_eq_true (h2 c hc), by show 10 * s.length + 2 ≤ _; omega⟩
theorem pv_of {m k : Nat} {d : D} (h : (d.plain && (decide (d.py.depth ≤ k) && (d.py.showable && (rok d.py && decide (rsz d.py ≤ m))))) = true) : Pv m k d := by
  obtain ⟨h1, h⟩ := (Bool.and_eq_true _ _).mp h
  obtain ⟨h2, h⟩ := (Bool.and_eq_true _ _).mp h
  obtain ⟨h3, h⟩ := (Bool.and_eq_true _ _).mp h
  obtain ⟨h4, h5⟩ := (Bool.and_eq_true _ _).mp h
  exact ⟨h1, of_decide_eq_true h2, h3, h4, of_decide_eq_true h5⟩
theorem big2 {n : Nat} (h : n ≤ 1000000) : n ≤ sizeLine := Nat.le_trans h (by decide)
theorem mul_of {x : Str} {n : Int} {N : Nat} (hx : x.length ≤ 100) (h0 : 0 ≤ n) (h1 : n ≤ N) (hN : N ≤ 100000) : PySem.MulOk x n ∧ (Txt.mul x n).length ≤ 100 * N := by
  have hp : x.length * n.toNat ≤ 100 * N := Nat.mul_le_mul hx (by omega)
  refine ⟨PyProof.Rows.mulOk_of 100 N hx h1 (by omega) (by omega) (by omega), PyProof.Rows.len_mul_leN hx h1⟩
theorem mul_chars {x : Str} {n : Int} : ∀ c ∈ (Txt.mul x n).cps.toList, c ∈ x.cps.toList := fun c hc => by
  unfold Txt.mul at hc
  split at hc
  · cases hc
  · split at hc
    · exact hc
    · have key : ∀ (k : Nat) (acc : Array Nat), (∀ c ∈ acc.toList, c ∈ x.cps.toList) → ∀ c ∈ ((List.replicate k x.cps).foldl (· ++ ·) acc).toList, c ∈ x.cps.toList := fun k => by
        induction k with
        | zero => intro acc h; exact h
        | succ k ih =>
          intro acc h
          rw [List.replicate_succ, List.foldl_cons]
          refine ih _ fun c hc => ?_
          rw [Array.toList_append] at hc
          exact (List.mem_append.mp hc).elim (h c) id
      exact key _ #[] (fun _ h => nomatch h) c hc
theorem p3 {ds : List D} {Q : D → Prop} {x : Xp} (h : Γ.phi 3 ds Q x) : wFn Γ N3 b3 ds Q x := by
  obtain ⟨⟨s, xs, n⟩, h1, hQ⟩ := h
  obtain ⟨⟨hs, ne, each, sl, n0, n1⟩, rfl⟩ : (s ≤ 100000 ∧ xs ≠ [] ∧ (∀ x ∈ xs, Pv s 1 x) ∧ szl xs ≤ s ∧ 0 ≤ n ∧ n ≤ 100000) ∧ ds = [.atom 0, .tup xs, .int n] := h1
  have hQ : ∀ z, Pv (10 * s + 60) 2 z → Q z := hQ
  have pvs : Pvs s 1 xs := Pvs.iff.mpr ⟨each, sl⟩
  have ll := sz_len xs
  have l0 := List.length_pos_iff.mpr ne
  rw [w3, ← vSs_eq]
  conv => whnf
  refine ⟨rfl, ctDraw_phi (by omega) (by omega) fun a a0 a1 => ?_⟩
  conv => whnf
  refine ⟨1, rfl, ?_⟩
  conv => whnf
  refine ⟨⟨by decide, by decide, by decide⟩, ?_⟩
  conv => whnf
  refine ⟨by show 1 ≤ sizeLine; decide, ?_⟩
  conv => whnf
  refine ⟨by show 8 ≤ sizeLine; decide, ?_⟩
  conv => whnf
  refine ⟨rfl, ctPick_phi (by simp) (by show 8 < 1073741824; decide) fun odd ho => ?_⟩
  have po : Pv 48 1 odd := by
    simp only [List.mem_cons, List.not_mem_nil, or_false] at ho
    rcases ho with rfl | rfl | rfl | rfl | rfl | rfl | rfl | rfl
    · exact (pv_int n0 (by omega)).mono (by decide) (Nat.le_refl _)
    · exact pv_of (by decide +kernel)
    · exact pv_of (by decide +kernel)
    · exact pv_of (by decide +kernel)
    · exact pv_of (by decide +kernel)
    · exact pv_of (by decide +kernel)
    · exact pv_of (by decide +kernel)
    · exact pv_of (by decide +kernel)
  clear ho
  simp only [frz_pr, frz_nil]
  have mo := mul_of (x := Str.ofString "0") (n := (xs.length : Nat)) (N := xs.length) (by decide +kernel) (Int.natCast_nonneg _) (Int.le_refl _) (by omega)
  have ml : (Txt.mul (Str.ofString "0") (xs.length : Nat)).length ≤ xs.length := PyProof.Rows.len_mul_one (c := 48) (by decide +kernel) (Int.le_refl _)
  have cl := fun lo hi => cutD_len xs lo hi
  conv => whnf
  refine ⟨_, rfl, ?_⟩
  conv => whnf
  refine ⟨1, rfl, ?_⟩
  conv => whnf
  refine ⟨big (Nat.le_trans (Nat.add_le_add_left (cl _ _) _) (by omega)), ?_⟩
  conv => whnf
  refine ⟨_, rfl, ?_⟩
  conv => whnf
  refine ⟨by show 1 ≤ sizeLine; decide, ?_⟩
  conv => whnf
  refine ⟨big (Nat.le_trans (Nat.add_le_add_right (cl _ _) _) (by show _ + 1 ≤ _; omega)), ?_⟩
  conv => whnf
  refine ⟨_, rfl, ?_⟩
  conv => whnf
  refine ⟨big2 (by rw [List.length_append]; exact Nat.le_trans (Nat.add_le_add (Nat.add_le_add_right (cl _ _) _) (cl _ _)) (by show _ + 1 + _ ≤ _; omega)), ?_⟩
  conv => whnf
  refine ⟨mo.1, big (by omega), ?_⟩
  conv => whnf
  refine ⟨by show 7 ≤ sizeLine; decide, ?_⟩
  conv => whnf
  refine ⟨by show 9 ≤ sizeLine; decide, ?_⟩
  conv => whnf
  refine ⟨rfl, ctPick_phi (by simp) (by show 9 < 1073741824; decide) fun z hz => ?_⟩
  have q0 : Pv (10 * s + 60) 2 (.lst xs) := pvs.lst.mono (by omega) (Nat.le_refl _)
  have q1 : Pv (10 * s + 60) 2 (.tup (cutD xs none (some a))) := (pvs.cut _ _).tup.mono (by omega) (Nat.le_refl _)
  have q2 : Pv (10 * s + 60) 2 (.tup (xs ++ cutD xs none (some 1))) := (pvs.app (pvs.cut _ _)).tup.mono (by omega) (Nat.le_refl _)
  have q3 : Pv (10 * s + 60) 2 (.tup (cutD xs none (some a) ++ [odd] ++ cutD xs (some (a + 1)) none)) := (((pvs.cut _ _).app (.one po)).app (pvs.cut _ _)).tup.mono (by omega) (Nat.le_refl _)
  have q4 : Pv (10 * s + 60) 2 (.str (Txt.mul (Str.ofString "0") (xs.length : Nat))) := (pv_str ml fun c hc => by
    have := mul_chars c hc
    rw [show (Str.ofString "0").cps.toList = [48] by decide +kernel] at this
    rw [List.mem_singleton.mp this]; decide).mono (by omega) (Nat.le_refl _)
  have q5 : Pv (10 * s + 60) 2 .non := (pv_of (m := 5) (k := 0) (by decide)).mono (by omega) (by decide)
  have q6 : Pv (10 * s + 60) 2 (.int 7) := (pv_int (k := 2) (by decide) (by decide)).mono (by omega) (Nat.le_refl _)
  simp only [List.mem_cons, List.not_mem_nil, or_false] at hz
  rcases hz with rfl | rfl | rfl | rfl | rfl | rfl | rfl | rfl | rfl
  · exact ⟨_, (atI_nat (k := 0)).trans rfl, hQ _ q0⟩
  · exact ⟨_, (atI_nat (k := 1)).trans rfl, hQ _ q1⟩
  · exact ⟨_, (atI_nat (k := 2)).trans rfl, hQ _ q2⟩
  · exact ⟨_, (atI_nat (k := 3)).trans rfl, hQ _ q3⟩
  · exact ⟨_, (atI_nat (k := 3)).trans rfl, hQ _ q3⟩
  · exact ⟨_, (atI_nat (k := 3)).trans rfl, hQ _ q3⟩
  · exact ⟨_, (atI_nat (k := 4)).trans rfl, hQ _ q4⟩
  · exact ⟨_, (atI_nat (k := 5)).trans rfl, hQ _ q5⟩
  · exact ⟨_, (atI_nat (k := 6)).trans rfl, hQ _ q6⟩
theorem atI_last {xs : List D} (h : xs ≠ []) : ∃ d, L2.atI xs (-1) = some d ∧ d ∈ xs := by
  have l0 := List.length_pos_iff.mpr h
  have hk : xs.length - 1 < xs.length := by omega
  refine ⟨xs[xs.length - 1], ?_, List.getElem_mem hk⟩
  unfold L2.atI L2.ixN
  rw [if_neg (by decide), if_pos (by omega)]
  have e : ((-1 : Int) + (xs.length : Int)).toNat = xs.length - 1 := by omega
  rw [e]
  show xs[xs.length - 1]? = some _
  exact List.getElem?_eq_getElem hk
theorem vl_of {m : Nat} {d : D} (h : (d.plain && (decide (d.py.depth ≤ 3) && (d.py.showable && (rok d.py && decide (rsz d.py ≤ 200))))) = true) (hm : 200 ≤ m) : Vl m 3 d := .inl ((pv_of (m := 200) (k := 3) h).mono hm (Nat.le_refl _))
theorem pvs_rng {k : Nat} : ∀ n, n ≤ 100000 → Pvs (8 * n) k ((List.range n).map fun i : Nat => D.int (i : Int))
  | 0, _ => .nil
  | n + 1, h => by
    rw [List.range_succ, List.map_append]
    exact ((pvs_rng n (by omega)).app (.one (pv_int (n := ((n : Nat) : Int)) (by omega) (by omega)))).mono (by omega) (Nat.le_refl _)
theorem p4 {ds : List D} {Q : D → Prop} {x : Xp} (h : Γ.phi 4 ds Q x) : wFn Γ N4 b4 ds Q x := by
  obtain ⟨⟨m, l, r, g, a⟩, h1, hQ⟩ := h
  obtain ⟨hm, pt, rfl⟩ : m ≤ 5000 ∧ Prt m l r g a ∧ ds = [.atom 0, .lst [l, r, g, a]] := h1
  replace hQ : ∀ l r g a, Prt (12 * m + 200) l r g a → Q (.lst [l, r, g, a]) := fun l r g a p => hQ _ ⟨l, r, g, a, rfl, p⟩
  have pw := pt.mono (m' := 12 * m + 200) (by omega)
  rw [w4, ← vSs_eq]
  conv => whnf
  refine ⟨rfl, ?_⟩
  conv => whnf
  refine ⟨rfl, ctDraw_phi (by decide) (by decide) fun k k0 k1 => ?_⟩
  obtain ⟨n, rfl⟩ := Int.eq_ofNat_of_zero_le k0
  have n8 : n < 5 := by omega
  clear k0 k1
  match n, n8 with
  | 0, _ =>
    conv => whnf
    refine ⟨⟨sh_int _, sh_int _⟩, ?_⟩
    rw [eqv_int]
    conv => whnf
    refine ⟨by show 1 ≤ sizeLine; decide, ?_⟩
    conv => whnf
    refine ⟨by show 1 ≤ sizeLine; decide, ?_⟩
    conv => whnf
    refine ⟨by show 10 ≤ sizeLine; decide, ?_⟩
    conv => whnf
    refine ⟨rfl, ctPick_phi (by simp) (by show 10 < 1073741824; decide) fun z hz => ?_⟩
    have hv : Vl (12 * m + 200) 3 z := by
      simp only [List.mem_cons, List.not_mem_nil, or_false] at hz
      rcases hz with rfl | rfl | rfl | rfl | rfl | rfl | rfl | rfl | rfl | rfl <;> exact vl_of (by decide +kernel) (by omega)
    clear hz
    simp only [frz_pr, frz_nil]
    iterate 4 ((conv => whnf); refine ⟨⟨sh_int _, sh_int _⟩, ?_⟩; rw [eqv_int])
    conv => whnf
    exact ⟨by show 4 ≤ sizeLine; decide, hQ _ _ _ _ ⟨hv, pw.r, pw.g, pw.a⟩⟩
  | 1, _ =>
    iterate 2 ((conv => whnf); refine ⟨⟨sh_int _, sh_int _⟩, ?_⟩; rw [eqv_int])
    conv => whnf
    refine ⟨by show 2 ≤ sizeLine; decide, ?_⟩
    conv => whnf
    refine ⟨by show 9 ≤ sizeLine; decide, ?_⟩
    conv => whnf
    refine ⟨rfl, ctPick_phi (by simp) (by show 9 < 1073741824; decide) fun z hz => ?_⟩
    have hv : Vl (12 * m + 200) 3 z := by
      simp only [List.mem_cons, List.not_mem_nil, or_false] at hz
      rcases hz with rfl | rfl | rfl | rfl | rfl | rfl | rfl | rfl | rfl <;> exact vl_of (by decide +kernel) (by omega)
    clear hz
    simp only [frz_pr, frz_nil]
    iterate 3 ((conv => whnf); refine ⟨⟨sh_int _, sh_int _⟩, ?_⟩; rw [eqv_int])
    conv => whnf
    exact ⟨by show 4 ≤ sizeLine; decide, hQ _ _ _ _ ⟨pw.l, hv, pw.g, pw.a⟩⟩
  | 2, _ =>
    iterate 3 ((conv => whnf); refine ⟨⟨sh_int _, sh_int _⟩, ?_⟩; rw [eqv_int])
    rcases tup_cases g pt.g.vB with ⟨rows, rfl⟩ | ⟨e, e2⟩
    rotate_left
    · conv => whnf
      refine ⟨_, e, ?_⟩
      conv => whnf
      refine ⟨_, rfl, ?_⟩
      iterate 2 ((conv => whnf); refine ⟨⟨sh_int _, sh_int _⟩, ?_⟩; rw [eqv_int])
      conv => whnf
      exact ⟨by show 4 ≤ sizeLine; decide, hQ _ _ _ _ pw⟩
    have pvs := pt.g.tup.tupI
    have ll := pvs.len
    conv => whnf
    refine ⟨_, isi_tup _, ?_⟩
    conv => whnf
    refine ⟨_, rfl, ?_⟩
    conv => whnf
    refine ⟨by show 0 ≤ sizeLine; decide, ?_⟩
    conv => whnf
    refine ⟨1, rfl, ?_⟩
    conv => whnf
    refine ⟨by show 1 ≤ sizeLine; decide, ?_⟩
    conv => whnf
    refine ⟨by show 1 ≤ sizeLine; decide, ?_⟩
    conv => whnf
    refine ⟨big (Nat.le_trans (Nat.add_le_add_right (cutD_len _ _ _) _) (by show _ + 1 ≤ _; omega)), ?_⟩
    conv => whnf
    refine ⟨by show 1 ≤ sizeLine; decide, ?_⟩
    conv => whnf
    refine ⟨big (by show _ + 1 ≤ _; omega), ?_⟩
    conv => whnf
    refine ⟨by show 7 ≤ sizeLine; decide, ?_⟩
    conv => whnf
    refine ⟨rfl, ctPick_phi (by simp) (by show 7 < 1073741824; decide) fun z hz => ?_⟩
    have hv : Vl (12 * m + 200) 3 z := by
      simp only [List.mem_cons, List.not_mem_nil, or_false] at hz
      rcases hz with rfl | rfl | rfl | rfl | rfl | rfl | rfl
      · exact .inl (pvs.lst.mono (by omega) (Nat.le_refl _))
      · exact vl_of (by decide) (by omega)
      · exact vl_of (by decide) (by omega)
      · exact vl_of (by decide +kernel) (by omega)
      · exact .inr rfl
      · exact .inl (((pvs.cut _ _).app (.one (pv_of (m := 20) (k := 2) (by decide +kernel)))).tup.mono (by omega) (Nat.le_refl _))
      · exact .inl ((pvs.app (.one (pv_of (m := 5) (k := 2) (by decide)))).tup.mono (by omega) (Nat.le_refl _))
    clear hz
    simp only [frz_pr, frz_nil]
    iterate 2 ((conv => whnf); refine ⟨⟨sh_int _, sh_int _⟩, ?_⟩; rw [eqv_int])
    conv => whnf
    exact ⟨by show 4 ≤ sizeLine; decide, hQ _ _ _ _ ⟨pw.l, pw.r, hv, pw.a⟩⟩
  | 3, _ =>
    iterate 4 ((conv => whnf); refine ⟨⟨sh_int _, sh_int _⟩, ?_⟩; rw [eqv_int])
    have same : vSs Γ (xl x) (.cons (.ite (.cmp .Eq (.var 6) (.int 4)) (.cons (.asg (.nm 8) (.ite (.isi (.var 4) "tuple") (.blt "len" (.cons (.var 4) .nil)) (.int 1))) (.cons (.asg (.nm 9) (.lst (.cons (.lstR (.var 8)) (.cons (.tup (.cons (.var 8) .nil)) (.cons (.tup (.cons (.int 0) (.cons (.int 0) .nil))) (.cons (.tup (.cons (.neg (.int 1)) .nil)) (.cons (.tup (.cons (.bl true) .nil)) (.cons (.tup (.cons (.int 0) (.cons (.str (Str.ofString "1")) .nil))) (.cons .non (.cons .dct0 (.cons (.str (Str.ofString "0")) (.cons (.tup (.cons (.bin .Sub (.var 8) (.int 1)) (.cons (.int 0) .nil))) .nil)))))))))))) (.cons (.asg (.nm 5) (.call 1 (.cons (.var 0) (.cons (.var 9) .nil)))) .nil))) .nil) (.cons (.ret (.lst (.cons (.var 2) (.cons (.var 3) (.cons (.var 4) (.cons (.var 5) .nil)))))) .nil))
        { nx := fun _ => Q .non, rt := Q } [some (false, .atom 0), some (false, .lst [l, r, g, a]), some (false, l), some (false, r), some (false, g), some (false, a), some (false, .int ((3 : Nat) : Int)), none, none, none] := by
      conv => whnf
      refine ⟨⟨sh_int _, sh_int _⟩, ?_⟩
      rw [eqv_int]
      conv => whnf
      exact ⟨by show 4 ≤ sizeLine; decide, hQ _ _ _ _ pw⟩
    rcases tup_cases g pt.g.vB with ⟨rows, rfl⟩ | ⟨e, e2⟩
    rotate_left
    · conv => whnf
      refine ⟨_, e, ?_⟩
      conv => whnf
      refine ⟨_, rfl, ?_⟩
      exact same
    have pv := pt.g.tup
    have pvs := pv.tupI
    have ll := pvs.len
    have each := pvs.each
    conv => whnf
    refine ⟨_, isi_tup _, ?_⟩
    conv => whnf
    refine ⟨_, rfl, ?_⟩
    conv => whnf
    refine ⟨by show 0 ≤ sizeLine; decide, ?_⟩
    conv => whnf
    refine ⟨⟨pv.shp (by decide), tupnil_sh⟩, ?_⟩
    rw [tup_ne]
    cases eE : rows.isEmpty
    rotate_left
    · exact same
    have ne : rows ≠ [] := fun e => by rw [e] at eE; cases eE
    have l0 := List.length_pos_iff.mpr ne
    obtain ⟨y, ey, my⟩ := atI_last ne
    conv => whnf
    refine ⟨1, rfl, ?_⟩
    conv => whnf
    refine ⟨y, ey, ?_⟩
    rcases tup_cases y (each y my).vB with ⟨ys, rfl⟩ | ⟨e, e2⟩
    rotate_left
    · conv => whnf
      refine ⟨_, e, ?_⟩
      conv => whnf
      refine ⟨_, rfl, ?_⟩
      exact same
    conv => whnf
    refine ⟨_, isi_tup _, ?_⟩
    conv => whnf
    refine ⟨_, rfl, ?_⟩
    conv => whnf
    refine ⟨1, rfl, ?_⟩
    conv => whnf
    refine ⟨_, ey, ?_⟩
    conv => whnf
    refine ⟨by show 0 ≤ sizeLine; decide, ?_⟩
    conv => whnf
    refine ⟨⟨(each _ my).shp (by decide), tupnil_sh⟩, ?_⟩
    rw [tup_ne]
    cases eY : ys.isEmpty
    rotate_left
    · exact same
    conv => whnf
    refine ⟨rfl, ctDraw_phi (by omega) (by omega) fun j j0 j1 => ?_⟩
    obtain ⟨u, eu, mu⟩ := atI_in (xs := rows) j0 (by omega)
    conv => whnf
    refine ⟨u, eu, ?_⟩
    have fin0 : ∀ o7, vSs Γ (xl x) (.cons (.ite (.cmp .Eq (.var 6) (.int 4)) (.cons (.asg (.nm 8) (.ite (.isi (.var 4) "tuple") (.blt "len" (.cons (.var 4) .nil)) (.int 1))) (.cons (.asg (.nm 9) (.lst (.cons (.lstR (.var 8)) (.cons (.tup (.cons (.var 8) .nil)) (.cons (.tup (.cons (.int 0) (.cons (.int 0) .nil))) (.cons (.tup (.cons (.neg (.int 1)) .nil)) (.cons (.tup (.cons (.bl true) .nil)) (.cons (.tup (.cons (.int 0) (.cons (.str (Str.ofString "1")) .nil))) (.cons .non (.cons .dct0 (.cons (.str (Str.ofString "0")) (.cons (.tup (.cons (.bin .Sub (.var 8) (.int 1)) (.cons (.int 0) .nil))) .nil)))))))))))) (.cons (.asg (.nm 5) (.call 1 (.cons (.var 0) (.cons (.var 9) .nil)))) .nil))) .nil) (.cons (.ret (.lst (.cons (.var 2) (.cons (.var 3) (.cons (.var 4) (.cons (.var 5) .nil)))))) .nil))
        { nx := fun _ => Q .non, rt := Q } [some (false, .atom 0), some (false, .lst [l, r, .tup rows, a]), some (false, l), some (false, r), some (false, .tup rows), some (false, a), some (false, .int ((3 : Nat) : Int)), o7, none, none] := fun o7 => by
      conv => whnf
      refine ⟨⟨sh_int _, sh_int _⟩, ?_⟩
      rw [eqv_int]
      conv => whnf
      exact ⟨by show 4 ≤ sizeLine; decide, hQ _ _ _ _ pw⟩
    rcases tup_cases u (each u mu).vB with ⟨us, rfl⟩ | ⟨e, e2⟩
    rotate_left
    · conv => whnf
      refine ⟨_, e, ?_⟩
      conv => whnf
      refine ⟨_, rfl, ?_⟩
      exact fin0 _
    conv => whnf
    refine ⟨_, isi_tup _, ?_⟩
    conv => whnf
    refine ⟨_, rfl, ?_⟩
    conv => whnf
    refine ⟨_, eu, ?_⟩
    conv => whnf
    refine ⟨by show 0 ≤ sizeLine; decide, ?_⟩
    conv => whnf
    refine ⟨⟨(each _ mu).shp (by decide), tupnil_sh⟩, ?_⟩
    rw [tup_ne]
    cases eU : us.isEmpty
    rotate_left
    · exact fin0 _
    have neu : us ≠ [] := fun e => by rw [e] at eU; cases eU
    have pus := (each _ mu).tupI
    conv => whnf
    refine ⟨_, rfl, ?_⟩
    conv => whnf
    refine ⟨_, eu, ?_⟩
    conv => whnf
    refine ⟨rfl, (m, us, (rows.length : Int)), ⟨⟨by show m ≤ 100000; omega, neu, pus.each, pus.sz, Int.natCast_nonneg _, by show ((rows.length : Nat) : Int) ≤ 100000; omega⟩, rfl⟩, fun z hz => ?_⟩
    have hz : Pv (10 * m + 60) 2 z := hz
    simp only [frz_pr, frz_nil]
    conv => whnf
    refine ⟨by show 1 ≤ sizeLine; decide, ?_⟩
    conv => whnf
    refine ⟨big (Nat.le_trans (Nat.add_le_add_right (cutD_len _ _ _) _) (by show _ + 1 ≤ _; omega)), ?_⟩
    conv => whnf
    refine ⟨_, rfl, ?_⟩
    conv => whnf
    refine ⟨big (by rw [List.length_append]; exact Nat.le_trans (Nat.add_le_add (Nat.add_le_add_right (cutD_len _ _ _) _) (cutD_len _ _ _)) (by show _ + 1 + _ ≤ _; omega)), ?_⟩
    conv => whnf
    refine ⟨⟨sh_int _, sh_int _⟩, ?_⟩
    rw [eqv_int]
    conv => whnf
    refine ⟨by show 4 ≤ sizeLine; decide, hQ _ _ _ _ ⟨pw.l, pw.r, .inl ?_, pw.a⟩⟩
    exact (((pvs.cut _ _).app (.one hz)).app (pvs.cut _ _)).tup.mono (by omega) (Nat.le_refl _)
  | 4, _ =>
    iterate 5 ((conv => whnf); refine ⟨⟨sh_int _, sh_int _⟩, ?_⟩; rw [eqv_int])
    have rest : ∀ k : Nat, k ≤ m + 1 → vSs Γ (xl x) (.cons (.asg (.nm 9) (.lst (.cons (.lstR (.var 8)) (.cons (.tup (.cons (.var 8) .nil)) (.cons (.tup (.cons (.int 0) (.cons (.int 0) .nil))) (.cons (.tup (.cons (.neg (.int 1)) .nil)) (.cons (.tup (.cons (.bl true) .nil)) (.cons (.tup (.cons (.int 0) (.cons (.str (Str.ofString "1")) .nil))) (.cons .non (.cons .dct0 (.cons (.str (Str.ofString "0")) (.cons (.tup (.cons (.bin .Sub (.var 8) (.int 1)) (.cons (.int 0) .nil))) .nil)))))))))))) (.cons (.asg (.nm 5) (.call 1 (.cons (.var 0) (.cons (.var 9) .nil)))) .nil))
        { nx := vSs Γ (xl x) (.cons (.ret (.lst (.cons (.var 2) (.cons (.var 3) (.cons (.var 4) (.cons (.var 5) .nil)))))) .nil) { nx := fun _ => Q .non, rt := Q }, rt := Q } [some (false, .atom 0), some (false, .lst [l, r, g, a]), some (false, l), some (false, r), some (false, g), some (false, a), some (false, .int ((4 : Nat) : Int)), none, some (false, .int (k : Nat)), none] := fun k hk => by
      conv => whnf
      refine ⟨_, rfl, ⟨by omega, by omega⟩, ?_⟩
      conv => whnf
      refine ⟨by show 1 ≤ sizeLine; decide, ?_⟩
      conv => whnf
      refine ⟨by show 2 ≤ sizeLine; decide, ?_⟩
      conv => whnf
      refine ⟨1, rfl, ?_⟩
      conv => whnf
      refine ⟨by show 1 ≤ sizeLine; decide, ?_⟩
      conv => whnf
      refine ⟨by show 1 ≤ sizeLine; decide, ?_⟩
      conv => whnf
      refine ⟨by show 2 ≤ sizeLine; decide, ?_⟩
      conv => whnf
      refine ⟨by show 2 ≤ sizeLine; decide, ?_⟩
      conv => whnf
      refine ⟨by show 10 ≤ sizeLine; decide, ?_⟩
      conv => whnf
      refine ⟨rfl, ctPick_phi (by simp) (by show 10 < 1073741824; decide) fun z hz => ?_⟩
      have hv : Vl (12 * m + 200) 3 z := by
        simp only [List.mem_cons, List.not_mem_nil, or_false] at hz
        rcases hz with rfl | rfl | rfl | rfl | rfl | rfl | rfl | rfl | rfl | rfl
        · exact .inl ((pvs_rng (k := 2) k (by omega)).lst.mono (by omega) (Nat.le_refl _))
        · exact .inl ((Pvs.one (pv_int (k := 2) (n := ((k : Nat) : Int)) (by omega) (by omega))).tup.mono (by omega) (Nat.le_refl _))
        · exact vl_of (by decide +kernel) (by omega)
        · exact vl_of (by decide +kernel) (by omega)
        · exact vl_of (by decide +kernel) (by omega)
        · exact vl_of (by decide +kernel) (by omega)
        · exact vl_of (by decide) (by omega)
        · exact .inr rfl
        · exact vl_of (by decide +kernel) (by omega)
        · refine .inl ?_
          have e1 : Pv 6 2 (.int (((k : Nat) : Int) - 1)) := by
            by_cases h0 : k = 0
            · subst h0; exact pv_of (by decide +kernel)
            · exact pv_int (by omega) (by omega)
          exact ((Pvs.one e1).app (.one (pv_int (k := 2) (n := 0) (by decide) (by decide)))).tup.mono (by omega) (Nat.le_refl _)
      clear hz
      simp only [frz_pr, frz_nil]
      conv => whnf
      exact ⟨by show 4 ≤ sizeLine; decide, hQ _ _ _ _ ⟨pw.l, pw.r, pw.g, hv⟩⟩
    rcases tup_cases g pt.g.vB with ⟨rows, rfl⟩ | ⟨e, e2⟩
    · have ll := pt.g.tup.tupI.len
      conv => whnf
      refine ⟨_, isi_tup _, ?_⟩
      conv => whnf
      refine ⟨_, rfl, ?_⟩
      exact rest rows.length (by omega)
    · conv => whnf
      refine ⟨_, e, ?_⟩
      conv => whnf
      refine ⟨_, rfl, ?_⟩
      exact rest 1 (by omega)
/-! ### drawn books -/
theorem wid_n (a b : Str) : (((a.length : Nat) : Int) + 1) * (((b.length : Nat) : Int) + 1) - 1 = (((a.length + 1) * (b.length + 1) - 1 : Nat) : Int) := wid _ _
theorem pick_A {z : D} (h : z ∈ [D.str (Str.ofString "a"), .str (Str.ofString "ab"), .str (Str.ofString "z"), .str (Str.ofString "cx")]) : ∃ A : Str, z = .str A ∧ Alp A ∧ ∀ c ∈ A.cps.toList, c ≠ 113 := by
  have key : ∀ A : Str, alB A.cps.toList = true → (A.cps.toList.all fun c => decide (c ≠ 113)) = true → ∃ A' : Str, D.str A = .str A' ∧ Alp A' ∧ ∀ c ∈ A'.cps.toList, c ≠ 113 := fun A h1 h2 =>
    ⟨A, rfl, alp_of h1, fun c hc => of_decide_eq_true (List.all_eq_true.mp h2 c hc)⟩
  simp only [List.mem_cons, List.not_mem_nil, or_false] at h
  rcases h with rfl | rfl | rfl | rfl <;> exact key _ (by decide +kernel) (by decide +kernel)
theorem pick_B {z : D} (h : z ∈ [D.str (Str.ofString "x"), .str (Str.ofString "xy"), .str (Str.ofString "a"), .str (Str.ofString "ab")]) : ∃ A : Str, z = .str A ∧ Alp A := by
  have key : ∀ A : Str, alB A.cps.toList = true → ∃ A' : Str, D.str A = .str A' ∧ Alp A' := fun A h1 => ⟨A, rfl, alp_of h1⟩
  simp only [List.mem_cons, List.not_mem_nil, or_false] at h
  rcases h with rfl | rfl | rfl | rfl <;> exact key _ (by decide +kernel)
theorem p2 {ds : List D} {Q : D → Prop} {x : Xp} (h : Γ.phi 2 ds Q x) : wFn Γ N2 b2 ds Q x := by
  obtain ⟨_, rfl, hQ⟩ := h
  replace hQ : ∀ P : Bk, P.Ok → Q P.parts := fun P ok => hQ _ ⟨P, ok, rfl⟩
  rw [w2, ← vSs_eq]
  conv => whnf
  refine ⟨by show 4 ≤ sizeLine; decide, ?_⟩
  conv => whnf
  refine ⟨rfl, ctPick_phi (by simp) (by decide) fun z hz => ?_⟩
  obtain ⟨A, rfl, hA, hq⟩ := pick_A hz
  clear hz
  conv => whnf
  refine ⟨by show 4 ≤ sizeLine; decide, ?_⟩
  conv => whnf
  refine ⟨rfl, ctPick_phi (by simp) (by decide) fun z hz => ?_⟩
  obtain ⟨B, rfl, hB⟩ := pick_B hz
  clear hz
  have la := hA.len
  have lb := hB.len
  simp only [frz_pr, frz_nil]
  conv => whnf
  refine ⟨rfl, ?_⟩
  conv => whnf
  refine ⟨rfl, ctDraw_phi (by decide) (by decide) fun k k0 k1 => ?_⟩
  obtain ⟨n, rfl⟩ := Int.eq_ofNat_of_zero_le k0
  obtain ⟨j, hj, j0, j1⟩ : ∃ j : Nat, (1 : Int) + (n : Int) = (j : Int) ∧ 0 < j ∧ j ≤ 4 := ⟨n + 1, by omega, by omega, by omega⟩
  conv => whnf
  refine ⟨mul_ok (by omega) (by omega), ?_⟩
  rw [hj]
  conv => whnf
  rw [wid_n]
  clear hj k0 k1
  generalize hw : (A.length + 1) * (B.length + 1) - 1 = wd
  have wl : wd ≤ 8 := by
    rw [← hw]
    have : (A.length + 1) * (B.length + 1) ≤ 3 * 3 := Nat.mul_le_mul (by omega) (by omega)
    omega
  refine ⟨by show 2 ≤ sizeLine; decide, ?_⟩
  conv => whnf
  refine ⟨rfl, ?_⟩
  conv => whnf
  refine ⟨_, rfl, ⟨by omega, by omega⟩, ?_⟩
  refine ⟨rfl, fun i acc => ∃ T : List (List Int), acc = T.map rowT ∧ T.length = i ∧ ∀ r ∈ T, r.length = wd ∧ ∀ e ∈ r, 0 ≤ e ∧ e < (j : Int), ⟨[], rfl, rfl, fun r hr => by simp at hr⟩, ?_, ?_⟩
  · rintro i d _ hd ⟨T, rfl, t1, t2⟩
    obtain ⟨il, rfl⟩ := rng_get hd
    have il : i < j := by simpa using il
    conv => whnf
    refine ⟨true, rfl, rfl, ?_, ?_⟩
    · rw [List.length_map]
      exact Nat.lt_of_lt_of_le (show T.length < 100 by omega) (by decide)
    conv => whnf
    refine ⟨_, rfl, ⟨by omega, by omega⟩, ?_⟩
    refine ⟨rfl, fun i acc => ∃ r : List Int, acc = r.map .int ∧ r.length = i ∧ ∀ e ∈ r, 0 ≤ e ∧ e < (j : Int), ⟨[], rfl, rfl, fun r hr => by simp at hr⟩, ?_, ?_⟩
    · rintro i d _ hd ⟨r, rfl, r1, r2⟩
      obtain ⟨il, rfl⟩ := rng_get hd
      have il : i < wd := by simpa using il
      conv => whnf
      refine ⟨true, rfl, rfl, ?_, ?_⟩
      · rw [List.length_map]
        exact Nat.lt_of_lt_of_le (show r.length < 100 by omega) (by decide)
      conv => whnf
      refine ⟨rfl, ctDraw_phi (by omega) (by omega) fun k k0 k1 => ?_⟩
      conv => whnf
      refine ⟨rfl, r ++ [k], by rw [List.map_append]; rfl, by rw [List.length_append, r1]; rfl, fun e he => ?_⟩
      rcases List.mem_append.mp he with he | he
      · exact r2 e he
      · rw [List.mem_singleton.mp he]; exact ⟨k0, k1⟩
    rintro _ ⟨r, rfl, r1, r2⟩
    conv => whnf
    refine ⟨rfl, T ++ [r], by rw [List.map_append]; rfl, by rw [List.length_append, t1]; rfl, fun r' hr' => ?_⟩
    rcases List.mem_append.mp hr' with hr' | hr'
    · exact t2 r' hr'
    · rw [List.mem_singleton.mp hr']
      exact ⟨by rw [r1]; simp, r2⟩
  rintro _ ⟨T, rfl, t1, t2⟩
  have t1 : T.length = j := by rw [t1]; simp
  conv => whnf
  refine ⟨_, rfl, ⟨by omega, by omega⟩, ?_⟩
  refine ⟨rfl, fun i acc => ∃ F : List Int, acc = F.map .int ∧ F.length ≤ i ∧ (∀ e ∈ F, 0 ≤ e ∧ e < (i : Int)) ∧ F.Pairwise (· < ·), ⟨[], rfl, Nat.le_refl _, fun r hr => by simp at hr, .nil⟩, ?_, ?_⟩
  · rintro i d _ hd ⟨F, rfl, f0, f1, f2⟩
    obtain ⟨il, rfl⟩ := rng_get hd
    have il : i < j := by simpa using il
    have no : ∃ F' : List Int, F.map D.int = F'.map .int ∧ F'.length ≤ i + 1 ∧ (∀ e ∈ F', 0 ≤ e ∧ e < ((i + 1 : Nat) : Int)) ∧ F'.Pairwise (· < ·) :=
      ⟨F, rfl, by omega, fun e he => by have := f1 e he; omega, f2⟩
    conv => whnf
    refine ⟨rfl, ctDraw_phi (by decide) (by decide) fun k k0 k1 => ?_⟩
    conv => whnf
    refine ⟨⟨sh_int _, sh_int _⟩, ?_⟩
    refine ⟨rfl, br_of (fun _ => ?_) fun _ => no⟩
    refine ⟨?_, ?_⟩
    · rw [List.length_map]
      exact Nat.lt_of_lt_of_le (show F.length < 100 by omega) (by decide)
    conv => whnf
    refine ⟨rfl, F ++ [(i : Int)], by rw [List.map_append]; rfl, by rw [List.length_append]; show _ + 1 ≤ _; omega, fun e he => ?_, ?_⟩
    · rcases List.mem_append.mp he with he | he
      · have := f1 e he; omega
      · rw [List.mem_singleton.mp he]; omega
    · rw [List.pairwise_append]
      refine ⟨f2, List.pairwise_singleton _ _, fun a ha b hb => ?_⟩
      rw [List.mem_singleton.mp hb]
      exact (f1 a ha).2
  rintro _ ⟨F, rfl, f0, f1, f2⟩
  have e : ((List.range (j : Int).toNat).map fun i : Nat => D.int (i : Int)).length = j := by simp
  rw [e] at f0 f1
  conv => whnf
  refine ⟨by show 4 ≤ sizeLine; decide, ?_⟩
  refine hQ ⟨A, B, T, F⟩ ⟨hA, hB, hq, ?_, ?_, fun r hr => ?_, fun e he => ?_, f2⟩
  · show 0 < T.length
    omega
  · show T.length ≤ 4
    omega
  · obtain ⟨q1, q2⟩ := t2 r hr
    refine ⟨by rw [q1, ← hw]; rfl, fun e he => ?_⟩
    have := q2 e he
    show 0 ≤ e ∧ e < ((T.length : Nat) : Int)
    omega
  · have := f1 e he
    show 0 ≤ e ∧ e < ((T.length : Nat) : Int)
    omega
/-- a book that is as it should be -/
theorem ascD_up : ∀ F : List Int, F.Pairwise (· < ·) → ascD (F.map .int) = true
  | [], _ => rfl
  | [a], _ => rfl
  | a :: b :: r, h => by
    obtain ⟨h1, h2⟩ := List.pairwise_cons.mp h
    have ih := ascD_up (b :: r) h2
    show (decide (a < b) && ascD ((b :: r).map .int)) = true
    rw [ih, decide_eq_true (h1 b List.mem_cons_self)]; rfl
theorem st_all {n : Int} {l : List Int} (h : ∀ e ∈ l, 0 ≤ e ∧ e < n) : (l.map D.int).all (stD n) = true := by
  rw [List.all_map]
  refine List.all_eq_true.mpr fun e he => ?_
  obtain ⟨h1, h2⟩ := h e he
  show (decide (0 ≤ e) && decide (e < n)) = true
  rw [decide_eq_true h1, decide_eq_true h2]; rfl
theorem due_ok {P : Bk} (ok : P.Ok) : dueO (.str P.A) (.str P.B) P.tab P.fin = none := by
  rw [due_g (show alD (.str P.A) = true from alp_B ok.a) (show alD (.str P.B) = true from alp_B ok.b)]
  have ew : wdD (.str P.A) (.str P.B) = ((P.w : Nat) : Int) := wid_n P.A P.B
  have eT : tabO (wdD (.str P.A) (.str P.B)) P.tab = none := by
    have e1 : (P.T.map rowT).isEmpty = false := by
      have := ok.n0
      unfold Bk.n at this
      cases hT : P.T with
      | nil => rw [hT] at this; cases this
      | cons a b => rfl
    have e2 : (P.T.map rowT).all tupB = true := by
      rw [List.all_map]
      exact List.all_eq_true.mpr fun _ _ => rfl
    show (if ((P.T.map rowT).isEmpty || !(P.T.map rowT).all tupB) = true then some sTable else (P.T.map rowT).find? fun r => !rowB (P.T.map rowT).length _ r) = none
    rw [e1, e2, if_neg (by decide)]
    refine find_take fun d hd => ?_
    obtain ⟨r, hr, rfl⟩ := List.mem_map.mp hd
    obtain ⟨r1, r2⟩ := ok.row r hr
    have : rowB (P.T.map rowT).length (wdD (.str P.A) (.str P.B)) (rowT r) = true := by
      show (decide ((((r.map D.int).length : Nat) : Int) = _) && (r.map D.int).all (stD _)) = true
      rw [List.length_map, List.length_map, r1, ew, decide_eq_true rfl]
      exact st_all r2
    rw [this]; rfl
  rw [eT]
  have e3 : accB ((items P.tab).length : Int) P.fin = true := by
    show ((P.F.map D.int).all (stD (((P.T.map rowT).length : Nat) : Int)) && ascD (P.F.map .int)) = true
    have q : (P.F.map D.int).all (stD ((P.T.length : Nat) : Int)) = true := st_all ok.acc
    rw [List.length_map, q, ascD_up _ ok.up]; rfl
  show (if accB ((items P.tab).length : Int) P.fin = true then none else some sAcc) = none
  rw [if_pos e3]
theorem alp_pv {A : Str} (h : Alp A) {k : Nat} : Pv 22 k (.str A) := by
  have := pv_str (s := A) (m := 2) (k := k) h.len.2 fun c hc => by have := h.rng c hc; omega
  exact this
theorem ints_pvs {k : Nat} : ∀ {l : List Int}, (∀ e ∈ l, 0 ≤ e ∧ e < 100) → Pvs (4 * l.length) k (l.map .int)
  | [], _ => .nil
  | e :: l, h => by
    have ih := ints_pvs (k := k) fun z hz => h z (List.mem_cons_of_mem _ hz)
    obtain ⟨h0, h1⟩ := h e List.mem_cons_self
    have one : Pv 2 k (.int e) := ⟨rfl, Nat.zero_le _, decide_eq_true (num_log h0 (by omega)), rfl, num_len h0 (by decide) (by omega)⟩
    exact ((Pvs.one one).app ih).mono (by rw [List.length_cons]; omega) (Nat.le_refl _)
theorem rows_pvs {k w : Nat} : ∀ {T : List (List Int)}, (∀ r ∈ T, r.length ≤ w ∧ ∀ e ∈ r, 0 ≤ e ∧ e < 100) → Pvs ((4 * w + 6) * T.length) (k + 1) (T.map rowT)
  | [], _ => .nil
  | r :: T, h => by
    have ih := rows_pvs (k := k) (w := w) fun z hz => h z (List.mem_cons_of_mem _ hz)
    obtain ⟨h0, h1⟩ := h r List.mem_cons_self
    have one : Pv (4 * w + 4) (k + 1) (rowT r) := (ints_pvs h1).tup.mono (by omega) (Nat.le_refl _)
    exact ((Pvs.one one).app ih).mono (by rw [List.length_cons, Nat.mul_succ]; omega) (Nat.le_refl _)
theorem up_len : ∀ (l : List Int) (a : Int), l.Pairwise (· < ·) → (∀ e ∈ l, a ≤ e ∧ e < 4) → a ≤ 4 → (l.length : Int) ≤ 4 - a
  | [], a, _, _, h => by simp; omega
  | e :: l, a, h, h2, h3 => by
    obtain ⟨k1, k2⟩ := List.pairwise_cons.mp h
    have := h2 e List.mem_cons_self
    have ih := up_len l (e + 1) k2 (fun z hz => ⟨by have := k1 z hz; omega, (h2 z (List.mem_cons_of_mem _ hz)).2⟩) (by omega)
    rw [List.length_cons]
    omega
theorem w_le {P : Bk} (ok : P.Ok) : P.w ≤ 8 := by
  have la := ok.a.len
  have lb := ok.b.len
  unfold Bk.w
  have : (P.A.length + 1) * (P.B.length + 1) ≤ 3 * 3 := Nat.mul_le_mul (by omega) (by omega)
  omega
theorem prt_ok {P : Bk} (ok : P.Ok) : Prt 200 (.str P.A) (.str P.B) P.tab P.fin := by
  have n1 := ok.n1
  have wl := w_le ok
  have rw' := rows_pvs (k := 1) (w := 8) (T := P.T) fun r hr => by
    obtain ⟨a, b⟩ := ok.row r hr
    refine ⟨by omega, fun e he => ?_⟩
    have := b e he
    omega
  have fl := up_len P.F 0 ok.up (fun e he => by have := ok.acc e he; omega) (by decide)
  have f := ints_pvs (k := 2) (l := P.F) fun e he => by have := ok.acc e he; omega
  refine ⟨.inl ((alp_pv ok.a).mono (by decide) (Nat.le_refl _)), .inl ((alp_pv ok.b).mono (by decide) (Nat.le_refl _)), .inl (rw'.tup.mono ?_ (by decide)), .inl (f.tup.mono (by omega) (Nat.le_refl _))⟩
  have : (4 * 8 + 6) * P.T.length ≤ 38 * 4 := Nat.mul_le_mul_left 38 n1
  omega
/-- the two equal books -/
theorem book_ok {P : Bk} (ok : P.Ok) {Q : D → Prop} {x : Xp} (h : Q P.book) : Γ.phi 15 [.str P.A, .str P.B, P.tab, P.fin] Q x :=
  ⟨200, _, _, _, _, by decide, prt_ok ok, rfl, fun _ => h, fun p e => by rw [due_ok ok] at e; cases e⟩
theorem parts_eqv (P P' : Bk) : P.parts.eqv P'.parts = (D.tup P.ps).eqv (.tup P'.ps) := rfl
theorem parts_sh (P : Bk) : P.parts.shaped = true := ps_sh P
theorem p25 {ds : List D} {Q : D → Prop} {x : Xp} (h : Γ.phi 25 ds Q x) : wFn Γ N25 b25 ds Q x := by
  obtain ⟨⟨P, P'⟩, h1, hQ⟩ := h
  obtain ⟨⟨ok, ok'⟩, rfl⟩ : (P.Ok ∧ P'.Ok) ∧ ds = [P.parts, P'.parts] := h1
  have hQ : Q (.bl true) := hQ _ rfl
  rw [w25, ← vSs_eq]
  conv => whnf
  refine ⟨.str P.A, rfl, ?_⟩
  conv => whnf
  refine ⟨.str P.B, rfl, ?_⟩
  conv => whnf
  refine ⟨P.tab, rfl, ?_⟩
  conv => whnf
  refine ⟨P.fin, rfl, ?_⟩
  conv => whnf
  refine ⟨rfl, book_ok ok ?_⟩
  conv => whnf
  refine ⟨.str P'.A, rfl, ?_⟩
  conv => whnf
  refine ⟨.str P'.B, rfl, ?_⟩
  conv => whnf
  refine ⟨P'.tab, rfl, ?_⟩
  conv => whnf
  refine ⟨P'.fin, rfl, ?_⟩
  conv => whnf
  refine ⟨rfl, book_ok ok' ?_⟩
  simp only [frz_pr, frz_nil]
  conv => whnf
  refine ⟨rfl, ?_⟩
  conv => whnf
  refine ⟨⟨parts_sh P, parts_sh P'⟩, ?_⟩
  have e1 : eqO P.ps P'.book = (D.tup P.ps).eqv (.tup P'.ps) := rfl
  have e2 : eqO P'.ps P.book = (D.tup P.ps).eqv (.tup P'.ps) := by
    show (D.tup P'.ps).eqv (.tup P.ps) = _
    rw [Bool.eq_iff_iff, ps_eqv, ps_eqv]
    exact eq_comm
  have e0 : P.parts.eqv P'.parts = (D.tup P.ps).eqv (.tup P'.ps) := rfl
  rw [e0]
  generalize (D.tup P.ps).eqv (.tup P'.ps) = b at e1 e2
  conv => whnf
  refine ⟨⟨_, _, rfl⟩, rfl, (P.ps, P'.book), ⟨⟨ps_sh P, rfl⟩, .inl ⟨P'.ps, rfl, ps_sh P', rfl⟩, rfl⟩, fun z hz => ?_⟩
  have hz : z = .bl b := by rw [← e1]; exact hz
  subst hz
  refine ⟨b, rfl, ?_⟩
  conv => whnf
  refine ⟨⟨_, _, rfl⟩, rfl, (P.ps, P'.book), ⟨⟨ps_sh P, rfl⟩, .inl ⟨P'.ps, rfl, ps_sh P', rfl⟩, rfl⟩, fun z hz => ?_⟩
  have hz : z = .bl b := by rw [← e1]; exact hz
  subst hz
  refine ⟨b, rfl, ?_⟩
  conv => whnf
  refine ⟨⟨_, _, rfl⟩, rfl, (P'.ps, P.book), ⟨⟨ps_sh P', rfl⟩, .inl ⟨P.ps, rfl, ps_sh P, rfl⟩, rfl⟩, fun z hz => ?_⟩
  have hz : z = .bl b := by rw [← e2]; exact hz
  subst hz
  refine ⟨b, rfl, ?_⟩
  conv => whnf
  refine ⟨P.tab, rfl, ?_⟩
  conv => whnf
  refine ⟨⟨_, _, rfl, rfl⟩, rfl, (P.ps, P.tab), ⟨⟨ps_sh P, rfl⟩, .inr rfl, rfl⟩, fun z hz => ?_⟩
  have hz : z = .bl false := hz
  subst hz
  refine ⟨false, rfl, ?_⟩
  have fin : ∀ c d : Bool, (D.lst [.bl c, .bl d, .bl c, .bl false]).eqv (.lst [.bl c, .bl d, .bl c, .bl false]) = true := fun c d => by cases c <;> cases d <;> decide +kernel
  conv => whnf
  refine ⟨by show 4 ≤ sizeLine; decide, ?_⟩
  conv => whnf
  refine ⟨_, rfl, ?_⟩
  conv => whnf
  refine ⟨by show 4 ≤ sizeLine; decide, ?_⟩
  conv => whnf
  refine ⟨⟨sh_flats rfl, sh_flats rfl⟩, ?_⟩
  have e := fin b (!b)
  have hQ : Q (.bl ((D.lst [.bl b, .bl !b, .bl b, .bl false]).eqv (.lst [.bl b, .bl !b, .bl b, .bl false]))) := by rw [e]; exact hQ
  cases b <;> exact hQ
/-! ### words and values that are none -/
def Ov (L x : Str) : Prop := x.length ≤ 60 ∧ ∀ c ∈ x.cps.toList, c ∈ L.cps.toList
theorem join_ov {L : Str} {zs : List Str} (h : ∀ z ∈ zs, z.length = 1 ∧ ∀ c ∈ z.cps.toList, c ∈ L.cps.toList) : (Str.join "" zs).length = zs.length ∧ ∀ c ∈ (Str.join "" zs).cps.toList, c ∈ L.cps.toList := by
  rw [← t_len, t_join]
  constructor
  · induction zs with
    | nil => rfl
    | cons z r ih =>
      have := (h z (List.mem_cons_self ..)).1
      rw [← t_len] at this
      simp only [List.map_cons, List.flatten_cons, List.length_append, List.length_cons]
      have := ih fun y hy => h y (List.mem_cons_of_mem _ hy)
      omega
  · intro c hc
    obtain ⟨l, hl, hc⟩ := List.mem_flatten.mp hc
    obtain ⟨z, hz, rfl⟩ := List.mem_map.mp hl
    exact (h z hz).2 c hc
theorem sum_le {zs : List Str} (h : ∀ z ∈ zs, z.length ≤ 1) : (zs.map (·.length)).sum ≤ zs.length := by
  induction zs with
  | nil => exact Nat.le_refl _
  | cons z r ih =>
    have := h z (List.mem_cons_self ..)
    have := ih fun y hy => h y (List.mem_cons_of_mem _ hy)
    simp only [List.map_cons, List.sum_cons, List.length_cons]
    omega
theorem letter_ok {L : Str} (al : Alp L) : signs L ≠ [] ∧ (signs L).length < 1073741824 ∧ ∀ z ∈ signs L, ∃ x, z = D.str x ∧ x.length = 1 ∧ ∀ c ∈ x.cps.toList, c ∈ L.cps.toList := by
  have l0 := al.len
  refine ⟨fun e => ?_, ?_, fun z hz => ?_⟩
  · have := congrArg List.length e
    rw [signs_len] at this
    simp at this
    omega
  · rw [signs_len]; omega
  · unfold signs at hz
    obtain ⟨c, hc, rfl⟩ := List.mem_map.mp hz
    refine ⟨_, rfl, rfl, fun d hd => ?_⟩
    rw [t_one] at hd
    rw [List.mem_singleton.mp hd]; exact hc
/-- drawn letters, put together -/
theorem word_ok {L : Str} {acc : List D} (h1 : acc.length ≤ 4) (h2 : ∀ d ∈ acc, ∃ x, d = D.str x ∧ x.length = 1 ∧ ∀ c ∈ x.cps.toList, c ∈ L.cps.toList) : ∃ zs, strsD acc = some zs ∧ (zs.map (·.length)).sum + zs.length * (Str.ofString "").length ≤ sizeLine ∧ Ov L (Str.join (Str.ofString "") zs) := by
  obtain ⟨zs, ez, lz, hz⟩ := strs_of h2
  have hs := sum_le fun z h => Nat.le_of_eq (hz z h).1
  obtain ⟨j1', j2'⟩ := join_ov hz
  refine ⟨zs, ez, ?_, ?_, j2'⟩
  · have : (Str.ofString "").length = 0 := rfl
    rw [this]
    exact big (by omega)
  · exact Nat.le_trans (Nat.le_of_eq j1') (by omega)
theorem wrd_of {L t : Str} (h : ∀ c ∈ t.cps.toList, c ∈ L.cps.toList) : wrd L (.str t) = true := by
  show (t.cps.toList.all fun c => decide (c ∈ L.cps.toList)) = true
  exact List.all_eq_true.mpr fun c hc => decide_eq_true (h c hc)
theorem wrd_no {L t : Str} {c : Nat} (h : c ∈ t.cps.toList) (h2 : c ∉ L.cps.toList) : wrd L (.str t) = false := by
  cases e : wrd L (.str t)
  · rfl
  · exact absurd (of_decide_eq_true (List.all_eq_true.mp (show (t.cps.toList.all fun c => decide (c ∈ L.cps.toList)) = true from e) c h)) h2
mutual
theorem plain_shows : ∀ d : D, d.plain = true → d.shows = true
  | .non, _ | .bl _, _ | .int _, _ | .str _, _ => rfl
  | .lst xs, h | .tup xs, h => plains_shows xs h
  | .dct _ _, h | .obj _ _, h | .atom _, h => by cases h
theorem plains_shows : ∀ xs : List D, D.plains xs = true → D.showss xs = true
  | [], _ => rfl
  | x :: xs, h => by
    obtain ⟨a, b⟩ := (Bool.and_eq_true _ _).mp (show (x.plain && D.plains xs) = true from h)
    show (x.shows && D.showss xs) = true
    rw [plain_shows x a, plains_shows xs b]; rfl
end
structure Sv (m : Nat) (xs : List D) : Prop where
  s : D.showss xs = true
  dp : PyData.depthAll (D.pys xs) ≤ 50
  sh : PyData.showableAll (D.pys xs) = true
  ln : piled (PyData.shownAll (D.pys xs)) ≤ m
theorem Sv.nil : Sv 0 [] := ⟨rfl, Nat.zero_le _, rfl, Nat.le_refl _⟩
theorem Sv.cons {m n k : Nat} {x : D} {xs : List D} (h : Vl m k x) (hk : k ≤ 50) (hm : 2 ≤ m) (h2 : Sv n xs) : Sv (m + 2 + n) (x :: xs) := by
  have key : x.shows = true ∧ x.py.depth ≤ 50 ∧ x.py.showable = true ∧ x.py.shown.length ≤ m := by
    rcases h with h | rfl
    · exact ⟨plain_shows _ h.pl, Nat.le_trans h.dp hk, h.sh, Nat.le_trans (shown_le _ h.ok) h.sz⟩
    · exact ⟨rfl, by show 1 ≤ 50; decide, rfl, Nat.le_trans (by decide +kernel) hm⟩
  obtain ⟨a, b, c, d⟩ := key
  have h2d := h2.dp
  have h2l := h2.ln
  refine ⟨?_, ?_, ?_, ?_⟩
  · show (x.shows && D.showss xs) = true
    rw [a, h2.s]; rfl
  · show max x.py.depth (PyData.depthAll (D.pys xs)) ≤ 50
    omega
  · show (x.py.showable && PyData.showableAll (D.pys xs)) = true
    rw [c, h2.sh]; rfl
  · show piled (x.py.shown :: PyData.shownAll (D.pys xs)) ≤ m + 2 + n
    rw [piled_cons]
    omega
theorem Sv.lst {m : Nat} {xs : List D} (h : Sv m xs) (hm : m ≤ 10000000) : Shows (.lst xs) := by
  have hd := h.dp
  refine ⟨h.s, ?_, h.sh, ?_⟩
  · show PyData.depthAll (D.pys xs) + 1 ≤ 60
    omega
  · have hl := h.ln
    have := textFrom_le (PyData.shownAll (D.pys xs)) 0 "["
    have e1 : ((("[" : String) : Str)).length = 1 := rfl
    have e2 : ((("]" : String) : Str)).length = 1 := rfl
    have : (listText (PyData.shownAll (D.pys xs))).length ≤ 10000010 := by
      unfold listText
      rw [strLen_append]
      omega
    exact Nat.le_trans this (by decide)
theorem vl_str {s : Str} {m k : Nat} (h : s.length ≤ m) (h2 : ∀ c ∈ s.cps.toList, c < 4294967296) : Vl (10 * m + 2) k (.str s) := .inl (pv_str h h2)
theorem vl_txt {s : Str} {k : Nat} (h : (decide (s.length ≤ 10) && s.cps.toList.all fun c => decide (c < 4294967296)) = true) : Vl 102 k (.str s) := by
  obtain ⟨h1, h2⟩ := (Bool.and_eq_true _ _).mp h
  exact vl_str (m := 10) (of_decide_eq_true h1) fun c hc => of_decide_eq_true (List.all_eq_true.mp h2 c hc)
theorem alast {l : List Nat} (h : l ≠ []) : ∃ d, L2.atI l (-1) = some d ∧ d ∈ l := by
  have l0 := List.length_pos_iff.mpr h
  have hk : l.length - 1 < l.length := by omega
  refine ⟨l[l.length - 1], ?_, List.getElem_mem hk⟩
  unfold L2.atI L2.ixN
  rw [if_neg (by decide), if_pos (by omega)]
  have e : ((-1 : Int) + (l.length : Int)).toNat = l.length - 1 := by omega
  rw [e]
  show l[l.length - 1]? = some _
  exact List.getElem?_eq_getElem hk
theorem ne_of {x y : Str} (h : x = y) : (!(D.str x).eqv (.str y)) = false := by rw [h, eqv_str_self]; rfl
theorem three_eqv (t : Str) : (D.lst [.str (Str.ofString "filter"), .str t, .bl true]).eqv (.lst [.str (Str.ofString "filter"), .str t, .bl true]) = true := by
  simp [D.eqv, D.py, D.pys, PyData.eqv, PyData.eqvAll]
/-- a value that is no word -/
structure NoW (L : Str) (d : D) : Prop where
  w : wrd L d = false
  v : Vl 2000 3 d
  l : ∀ t, d = .str t → t.length ≤ 100000
theorem NoW.word {L : Str} {d : D} (h : NoW L d) : wordy d := ⟨h.v.vB, h.l⟩
theorem NoW.sh {L : Str} {d : D} (h : NoW L d) : Shows (.lst [.str (Str.ofString "no word"), d]) :=
  (Sv.cons (vl_txt (k := 3) (by decide +kernel)) (by decide) (by decide) (Sv.cons h.v (by decide) (by decide) .nil)).lst (by decide)
theorem NoW.str {L t : Str} {c : Nat} (h : c ∈ t.cps.toList) (h2 : c ∉ L.cps.toList) (h3 : t.length ≤ 100) (h4 : ∀ c ∈ t.cps.toList, c < 4294967296) : NoW L (.str t) :=
  ⟨wrd_no h h2, (vl_str (m := 100) h3 h4).mono (by decide) (Nat.le_refl 3), fun t' e => by cases e; omega⟩
theorem NoW.oth {L : Str} {d : D} (h : ∀ t, d ≠ .str t) (hv : Vl 2000 3 d) : NoW L d := by
  refine ⟨?_, hv, fun t e => absurd e (h t)⟩
  cases d with
  | str t => exact absurd rfl (h t)
  | _ => rfl
theorem p24 {ds : List D} {Q : D → Prop} {x : Xp} (h : Γ.phi 24 ds Q x) : wFn Γ N24 b24 ds Q x := by
  obtain ⟨P, ⟨ok, rfl⟩, hQ⟩ := h
  replace hQ : Q (.bl true) := hQ _ rfl
  have la := ok.a.len
  have rng := ok.a.rng
  have noq := ok.noq
  rw [w24, ← vSs_eq]
  conv => whnf
  refine ⟨.str P.A, rfl, ?_⟩
  conv => whnf
  refine ⟨.str P.B, rfl, ?_⟩
  conv => whnf
  refine ⟨P.tab, rfl, ?_⟩
  conv => whnf
  refine ⟨P.fin, rfl, ?_⟩
  conv => whnf
  refine ⟨rfl, book_ok ok ?_⟩
  conv => whnf
  refine ⟨.str P.A, rfl, ?_⟩
  conv => whnf
  refine ⟨by show 2 ≤ sizeLine; decide, ?_⟩
  conv => whnf
  refine ⟨rfl, ?_⟩
  conv => whnf
  refine ⟨rfl, ?_⟩
  conv => whnf
  refine ⟨rfl, ctDraw_phi (by decide) (by decide) fun a a0 a1 => ?_⟩
  conv => whnf
  refine ⟨a, rfl, ⟨by omega, by omega⟩, ?_⟩
  obtain ⟨la1, la2, la3⟩ := letter_ok ok.a
  refine ⟨rfl, fun i acc => acc.length = i ∧ ∀ d ∈ acc, ∃ x, d = D.str x ∧ x.length = 1 ∧ ∀ c ∈ x.cps.toList, c ∈ P.A.cps.toList, ⟨rfl, fun d hd => by simp at hd⟩, ?_, ?_⟩
  · rintro i d acc hd ⟨h1, h2⟩
    have hi : i < 5 := by
      have := (rng_get hd).1
      omega
    conv => whnf
    refine ⟨true, rfl, rfl, Nat.lt_of_lt_of_le (show acc.length < 60 by omega) (by decide), ?_⟩
    conv => whnf
    refine ⟨rfl, ctPick_phi la1 la2 fun z hz => ?_⟩
    obtain ⟨y, rfl, hy⟩ := la3 z hz
    conv => whnf
    refine ⟨rfl, by rw [List.length_append, h1]; rfl, fun d hd => ?_⟩
    rcases List.mem_append.mp hd with hd | hd
    · exact h2 d hd
    · rw [List.mem_singleton.mp hd]
      exact ⟨_, rfl, hy⟩
  rintro acc ⟨h1, h2⟩
  obtain ⟨zs, ez, sz, os⟩ := word_ok (by rw [h1]; simp; omega) h2
  conv => whnf
  refine ⟨zs, ez, sz, ?_⟩
  generalize Str.join (Str.ofString "") zs = s at os
  clear h1 h2 ez sz a0 a1
  have sl : s.length ≤ 60 := os.1
  have ss : ∀ c ∈ s.cps.toList, 97 ≤ c ∧ c ≤ 122 := fun c hc => rng c (os.2 c hc)
  obtain ⟨c, ec, hc⟩ := alast (l := P.A.cps.toList) (fun e => by rw [← t_len, e] at la; exact absurd la.1 (by decide))
  have cr := rng c hc
  have m30 := mul_of (x := P.A) (n := 30) (N := 30) (by omega) (by decide) (by decide) (by decide)
  have m60 := mul_of (x := P.A) (n := 60) (N := 60) (by omega) (by decide) (by decide) (by decide)
  conv => whnf
  refine ⟨1, rfl, ?_⟩
  conv => whnf
  refine ⟨c, ec, ?_⟩
  conv => whnf
  refine ⟨big (by show _ + 1 ≤ _; omega), ?_⟩
  conv => whnf
  refine ⟨m30.1, big (by omega), ?_⟩
  conv => whnf
  refine ⟨m60.1, big (by omega), ?_⟩
  conv => whnf
  refine ⟨60, rfl, ?_⟩
  conv => whnf
  refine ⟨by show 5 ≤ sizeLine; decide, ?_⟩
  conv => whnf
  refine ⟨_, rfl, ?_⟩
  have hcut : (L2.cutS (Txt.mul P.A 60) none (some 60)).length ≤ 12000 := by
    rw [← t_len, t_cut]
    refine Nat.le_trans (cutD_len _ _ _) ?_
    rw [t_len]
    omega
  have wq : ∀ {t : Str}, (∀ c ∈ t.cps.toList, c ∈ P.A.cps.toList) → t.length ≤ 12000 → wrd P.A (.str t) = true ∧ t.length ≤ 12000 := fun h1 h2 => ⟨wrd_of h1, h2⟩
  have q1 := wq (t := Str.ofString "") (fun c hc => by cases hc) (by decide)
  have q2 := wq (t := s) os.2 (by omega)
  have q3 := wq (t := s ++ ⟨#[c]⟩) (fun d hd => by
    rw [t_app] at hd
    rcases List.mem_append.mp hd with hd | hd
    · exact os.2 d hd
    · rw [t_one] at hd
      rw [List.mem_singleton.mp hd]; exact hc) (by rw [← t_len, t_app, List.length_append, t_len, t_one]; show s.length + 1 ≤ _; omega)
  have q4 := wq (t := Txt.mul P.A 30) (fun d hd => mul_chars d hd) (by omega)
  have q5 := wq (t := L2.cutS (Txt.mul P.A 60) none (some 60)) (fun d hd => by
    rw [t_cut] at hd
    exact mul_chars d (cutD_mem hd)) hcut
  refine ⟨fun i ρ => ∃ o5, ρ = [some (false, .atom 0), some (false, P.parts), some (false, P.book), some (false, .str P.A), some (false, .str s), o5, none], ⟨_, rfl⟩, ?_, ?_⟩
  · rintro i d _ hd ⟨o5, rfl⟩
    obtain ⟨t, rfl, tw, tl⟩ : ∃ t : Str, d = .str t ∧ wrd P.A (.str t) = true ∧ t.length ≤ 12000 := by
      have := List.mem_of_getElem? hd
      simp only [List.mem_cons, List.not_mem_nil, or_false] at this
      rcases this with rfl | rfl | rfl | rfl | rfl
      · exact ⟨_, rfl, q1⟩
      · exact ⟨_, rfl, q2⟩
      · exact ⟨_, rfl, q3⟩
      · exact ⟨_, rfl, q4⟩
      · exact ⟨_, rfl, q5⟩
    conv => whnf
    refine ⟨rfl, (P, .str t), ⟨ok, ⟨rfl, fun t' e => by cases e; omega⟩, rfl⟩, fun z hz => ?_⟩
    have hz : z = .lst [.str (Str.ofString "filter"), .str t, .bl true] := by
      have hz : z = .lst (fiL P.A (.str t)) := hz
      unfold fiL at hz
      rw [if_pos tw] at hz
      exact hz
    subst hz
    conv => whnf
    refine ⟨by show 3 ≤ sizeLine; decide, ?_⟩
    conv => whnf
    refine ⟨⟨sh_flats rfl, sh_flats rfl⟩, ?_⟩
    rw [three_eqv]
    conv => whnf
    exact ⟨_, rfl⟩
  rintro _ ⟨o5, rfl⟩
  conv => whnf
  refine ⟨big (by show _ + 1 ≤ _; omega), ?_⟩
  conv => whnf
  refine ⟨big (by show _ + 1 ≤ _; omega), ?_⟩
  conv => whnf
  refine ⟨by show 1 ≤ sizeLine; decide, ?_⟩
  conv => whnf
  refine ⟨by show 9 ≤ sizeLine; decide, ?_⟩
  conv => whnf
  refine ⟨_, rfl, ?_⟩
  have slt : ∀ c ∈ s.cps.toList, c < 4294967296 := fun c hc => by have := ss c hc; omega
  have n1 : NoW P.A (.str (s ++ Str.ofString "-")) := by
    refine NoW.str (c := 45) ?_ (fun h => by have := rng 45 h; omega) ?_ fun c hc => ?_
    · rw [t_app]
      exact List.mem_append_right _ (by decide +kernel)
    · rw [← t_len, t_app, List.length_append, t_len, t_len]
      show s.length + 1 ≤ _
      omega
    · rw [t_app] at hc
      rcases List.mem_append.mp hc with hc | hc
      · exact slt c hc
      · have : c = 45 := by
          have e : (Str.ofString "-").cps.toList = [45] := by decide +kernel
          rw [e] at hc
          exact List.mem_singleton.mp hc
        omega
  have n2 : NoW P.A (.str (s ++ Str.ofString "q")) := by
    refine NoW.str (c := 113) ?_ (fun h => noq 113 h rfl) ?_ fun c hc => ?_
    · rw [t_app]
      exact List.mem_append_right _ (by decide +kernel)
    · rw [← t_len, t_app, List.length_append, t_len, t_len]
      show s.length + 1 ≤ _
      omega
    · rw [t_app] at hc
      rcases List.mem_append.mp hc with hc | hc
      · exact slt c hc
      · have : c = 113 := by
          have e : (Str.ofString "q").cps.toList = [113] := by decide +kernel
          rw [e] at hc
          exact List.mem_singleton.mp hc
        omega
  have n3 : NoW P.A (.str (Str.ofString "A")) := NoW.str (c := 65) (by decide +kernel) (fun h => by have := rng 65 h; omega) (by decide +kernel) fun c hc => by
    have e : (Str.ofString "A").cps.toList = [65] := by decide +kernel
    rw [e] at hc
    have := List.mem_singleton.mp hc
    omega
  have n4 : NoW P.A .non := .oth (fun _ h => by cases h) (vl_of (by decide) (by decide))
  have n5 : NoW P.A (.int 0) := .oth (fun _ h => by cases h) (vl_of (by decide +kernel) (by decide))
  have n6 : NoW P.A (.bl true) := .oth (fun _ h => by cases h) (vl_of (by decide) (by decide))
  have n7 : NoW P.A (.tup [.str s]) := .oth (fun _ h => by cases h) (.inl ((Pvs.one (pv_str (k := 2) (m := 60) sl slt)).tup.mono (by decide) (Nat.le_refl _)))
  have n8 : NoW P.A (.lst (signs P.A)) := by
    refine .oth (fun _ h => by cases h) (.inl ?_)
    have key : ∀ l : List Nat, (∀ c ∈ l, c < 4294967296) → Pvs (14 * l.length) 2 (l.map sg) := fun l => by
      induction l with
      | nil => exact fun _ => .nil
      | cons c l ih =>
        intro h
        have one : Pv 12 2 (sg c) := pv_str (m := 1) (Nat.le_refl 1) fun d hd => by
          rw [t_one] at hd
          rw [List.mem_singleton.mp hd]
          exact h c List.mem_cons_self
        exact ((Pvs.one one).app (ih fun d hd => h d (List.mem_cons_of_mem _ hd))).mono (by rw [List.length_cons]; omega) (Nat.le_refl _)
    have := key P.A.cps.toList fun c hc => by have := rng c hc; omega
    rw [t_len] at this
    exact this.lst.mono (by omega) (Nat.le_refl _)
  have n9 : NoW P.A (.dct [] []) := .oth (fun _ h => by cases h) (.inr rfl)
  refine ⟨fun i ρ => ∃ o5, ρ = [some (false, .atom 0), some (false, P.parts), some (false, P.book), some (false, .str P.A), some (false, .str s), o5, none], ⟨_, rfl⟩, ?_, ?_⟩
  · rintro i d _ hd ⟨o5, rfl⟩
    have nw : NoW P.A d := by
      have := List.mem_of_getElem? hd
      simp only [List.mem_cons, List.not_mem_nil, or_false] at this
      rcases this with rfl | rfl | rfl | rfl | rfl | rfl | rfl | rfl | rfl
      · exact n1
      · exact n2
      · exact n3
      · exact n4
      · exact n5
      · exact n6
      · exact n7
      · exact n8
      · exact n9
    clear hd n1 n2 n3 n4 n5 n6 n7 n8 n9
    conv => whnf
    refine ⟨rfl, (P, d), ⟨ok, nw.word, rfl⟩, fun z hz => ?_⟩
    have hz : z = .lst [.str (Str.ofString "no word"), d] := by
      have hz : z = .lst (fiL P.A d) := hz
      unfold fiL at hz
      rw [if_neg (by rw [nw.w]; decide)] at hz
      exact hz
    subst hz
    conv => whnf
    refine ⟨nw.sh, ?_⟩
    conv => whnf
    refine ⟨by show 2 ≤ sizeLine; decide, ?_⟩
    conv => whnf
    refine ⟨nw.sh, ?_⟩
    conv => whnf
    refine ⟨⟨sh_str _, sh_str _⟩, ?_⟩
    rw [ne_of rfl]
    conv => whnf
    exact ⟨_, rfl⟩
  rintro _ ⟨o5, rfl⟩
  exact hQ
/-! ### the law -/
theorem madeL_due {l r g a : D} : (dueO l r g a = none → madeL l r g a = [.str (Str.ofString "made"), l, r, g, a, .int (items g).length]) ∧ ∀ p, dueO l r g a = some p → madeL l r g a = [.str (Str.ofString "bad"), p] := by
  constructor
  · intro e
    unfold madeL
    rw [e]
  · intro p e
    unfold madeL
    rw [e]
theorem due_tup {l r g a : D} (e : dueO l r g a = none) : ∃ xs, g = .tup xs := by
  cases el : alD l
  · rw [due_l el] at e; cases e
  cases er : alD r
  · rw [due_r el er] at e; cases e
  rw [due_g el er] at e
  cases eT : tabO (wdD l r) g with
  | some p => rw [eT] at e; cases e
  | none => exact tab_tup eT
theorem pv_txt {s : Str} {k m : Nat} (hm : 102 ≤ m) (h : (decide (s.length ≤ 10) && s.cps.toList.all fun c => decide (c < 4294967296)) = true) : Pv m k (.str s) := by
  obtain ⟨h1, h2⟩ := (Bool.and_eq_true _ _).mp h
  exact (pv_str (m := 10) (k := k) (of_decide_eq_true h1) fun c hc => of_decide_eq_true (List.all_eq_true.mp h2 c hc)).mono hm (Nat.le_refl _)
theorem due_pv {m : Nat} {l r g a p : D} (pt : Prt m l r g a) (hm : 200 ≤ m) (e : dueO l r g a = some p) : Pv m 3 p := by
  have t1 : ∀ {s : Str}, (decide (s.length ≤ 10) && s.cps.toList.all fun c => decide (c < 4294967296)) = true → Pv m 3 (.str s) := fun h => pv_txt (by omega) h
  cases el : alD l
  · rw [due_l el] at e
    cases e
    exact t1 (by decide +kernel)
  cases er : alD r
  · rw [due_r el er] at e
    cases e
    exact t1 (by decide +kernel)
  rw [due_g el er] at e
  cases eT : tabO (wdD l r) g with
  | some q =>
    rw [eT] at e
    cases e
    cases g with
    | tup rows =>
      have eT : (if (rows.isEmpty || !rows.all tupB) = true then some sTable else rows.find? fun r' => !rowB rows.length (wdD l r) r') = some p := eT
      split at eT
      · cases eT
        exact t1 (by decide +kernel)
      · have hm := List.mem_of_find?_eq_some eT
        exact (pt.g.tup.tupI.each p hm).mono (Nat.le_refl _) (by decide)
    | _ =>
      cases eT
      exact t1 (by decide +kernel)
  | none =>
    rw [eT] at e
    have e : (if accB (items g).length a = true then none else some sAcc) = some p := e
    split at e
    · cases e
    · cases e
      exact t1 (by decide +kernel)
theorem four_shows {m : Nat} {l r g a : D} (pt : Prt m l r g a) (h2 : 2 ≤ m) (hm : m ≤ 100000) : Shows (.lst [l, r, g, a]) :=
  (Sv.cons pt.l (by decide) h2 (Sv.cons pt.r (by decide) h2 (Sv.cons pt.g (by decide) h2 (Sv.cons pt.a (by decide) h2 .nil)))).lst (by omega)
theorem made_shows {m : Nat} {l r g a : D} (pt : Prt m l r g a) (h2 : 200 ≤ m) (hm : m ≤ 100000) : Shows (.lst (madeL l r g a)) := by
  cases e : dueO l r g a with
  | none =>
    rw [madeL_due.1 e]
    obtain ⟨xs, rfl⟩ := due_tup e
    have xl := pt.g.tup.tupI.len
    have n : Vl 6 3 (.int ((items (.tup xs)).length : Nat)) := .inl (pv_int (Int.natCast_nonneg _) (by show ((xs.length : Nat) : Int) < 1000000; omega))
    exact (Sv.cons (vl_txt (k := 3) (by decide +kernel)) (by decide) (by decide) (Sv.cons pt.l (by decide) (by omega) (Sv.cons pt.r (by decide) (by omega) (Sv.cons pt.g (by decide) (by omega) (Sv.cons pt.a (by decide) (by omega) (Sv.cons n (by decide) (by decide) .nil)))))).lst (by omega)
  | some p =>
    rw [madeL_due.2 p e]
    exact (Sv.cons (vl_txt (k := 3) (by decide +kernel)) (by decide) (by decide) (Sv.cons (.inl (due_pv pt h2 e)) (by decide) (by omega) .nil)).lst (by omega)
theorem pL : wSs Γ noX bL { nx := fun _ => False, rt := fun d => d = .bl true } (startL NL 1) := by
  rw [← vSs_eq]
  conv => whnf
  refine ⟨6, rfl, ⟨by decide, by decide⟩, ?_⟩
  refine ⟨fun i ρ => ∃ o0 o2 o3 o4 o5 o6 o7 o8 o9 o10, ρ = [o0, some (false, .atom 0), o2, o3, o4, o5, o6, o7, o8, o9, o10, none], ⟨_, _, _, _, _, _, _, _, _, _, rfl⟩, ?_, ?_⟩
  · rintro i d _ hd ⟨o0, o2, o3, o4, o5, o6, o7, o8, o9, o10, rfl⟩
    obtain ⟨i6, rfl⟩ := rng_get hd
    conv => whnf
    refine ⟨rfl, (), rfl, ?_⟩
    rintro _ ⟨P, ok, rfl⟩
    conv => whnf
    refine ⟨rfl, (), rfl, ?_⟩
    rintro _ ⟨P2, ok2, rfl⟩
    conv => whnf
    refine ⟨by show 2 ≤ sizeLine; decide, ?_⟩
    conv => whnf
    refine ⟨rfl, ?_⟩
    have pt1 := prt_ok ok
    conv => whnf
    refine ⟨rfl, (200, _, _, _, _), ⟨by show 200 ≤ 5000; decide, pt1, rfl⟩, ?_⟩
    rintro _ ⟨l2, r2, g2, a2, rfl, pt2⟩
    conv => whnf
    refine ⟨rfl, (2600, _, _, _, _), ⟨by show 2600 ≤ 5000; decide, pt2, rfl⟩, ?_⟩
    rintro _ ⟨l3, r3, g3, a3, rfl, pt3⟩
    conv => whnf
    refine ⟨by show 3 ≤ sizeLine; decide, ?_⟩
    conv => whnf
    refine ⟨_, rfl, ?_⟩
    have hall : ∀ d ∈ [P.parts, D.lst [l2, r2, g2, a2], .lst [l3, r3, g3, a3]], ∃ l r g a, d = .lst [l, r, g, a] ∧ Prt 31400 l r g a := fun d hd => by
      simp only [List.mem_cons, List.not_mem_nil, or_false] at hd
      rcases hd with rfl | rfl | rfl
      · exact ⟨_, _, _, _, rfl, pt1.mono (by decide)⟩
      · exact ⟨_, _, _, _, rfl, Prt.mono (m := 2600) pt2 (by decide)⟩
      · exact ⟨_, _, _, _, rfl, pt3⟩
    refine ⟨fun j ρ => ∃ o0 o5 o6 o7 o8 o9 o10, ρ = [o0, some (false, .atom 0), some (false, .int (i : Int)), some (false, P.parts), some (false, P2.parts), o5, o6, o7, o8, o9, o10, none], ⟨_, _, _, _, _, _, _, rfl⟩, ?_, ?_⟩
    · rintro j d _ hd ⟨o0, o5, o6, o7, o8, o9, o10, rfl⟩
      obtain ⟨l, r, g, a, rfl, pt⟩ := hall d (List.mem_of_getElem? hd)
      clear hall hd pt2 pt3
      have sh4 := four_shows pt (by decide) (by decide)
      have msh := made_shows pt (by decide) (by decide)
      conv => whnf
      refine ⟨sh4, ?_⟩
      conv => whnf
      refine ⟨rfl, (31400, _, _, _, _), ⟨by show 31400 ≤ 100000; decide, pt, rfl⟩, fun z hz => ?_⟩
      cases hz
      simp only [frz_pr, frz_nil]
      conv => whnf
      refine ⟨rfl, ?_⟩
      cases e : dueO l r g a with
      | none =>
        rw [madeL_due.1 e] at msh
        obtain ⟨xs, rfl⟩ := due_tup e
        conv => whnf
        refine ⟨by show 0 ≤ sizeLine; decide, ?_⟩
        conv => whnf
        refine ⟨⟨sh_nil, sh_nil⟩, ?_⟩
        rw [eqv_nil]
        conv => whnf
        refine ⟨by show 1 ≤ sizeLine; decide, ?_⟩
        conv => whnf
        refine ⟨by show 5 ≤ sizeLine; decide, ?_⟩
        conv => whnf
        refine ⟨_, rfl, ?_⟩
        conv => whnf
        refine ⟨by show 1 ≤ sizeLine; decide, ?_⟩
        conv => whnf
        refine ⟨by show 6 ≤ sizeLine; decide, ?_⟩
        conv => whnf
        refine ⟨by decide, ?_⟩
        conv => whnf
        refine ⟨⟨sh_int _, sh_int _⟩, ?_⟩
        conv => whnf
        refine ⟨rfl, ((31400, _, _, _, _), _), ⟨by show 31400 ≤ 100000; decide, pt, rfl⟩, fun z hz => ?_⟩
        cases hz
        rw [madeL_due.1 e]
        simp only [frz_pr, frz_nil]
        conv => whnf
        refine ⟨msh, ?_⟩
        conv => whnf
        refine ⟨msh, ?_⟩
        conv => whnf
        refine ⟨⟨sh_str _, sh_str _⟩, ?_⟩
        rw [ne_of]
        rotate_left
        · rfl
        conv => whnf
        refine ⟨sh4, ?_⟩
        conv => whnf
        refine ⟨⟨sh_str _, sh_str _⟩, ?_⟩
        rw [ne_of]
        rotate_left
        · rfl
        conv => whnf
        exact ⟨_, _, _, _, _, _, _, rfl⟩
      | some p =>
        have pp := due_pv pt (by decide) e
        rw [madeL_due.2 p e] at msh
        conv => whnf
        refine ⟨by show 0 ≤ sizeLine; decide, ?_⟩
        conv => whnf
        refine ⟨⟨((Pvs.one pp).lst).shp (by decide), sh_nil⟩, ?_⟩
        show (fun z => br z _ _) ((D.lst [p]).eqv (.lst []))
        rw [eqv_nil]
        conv => whnf
        refine ⟨by show 1 ≤ sizeLine; decide, ?_⟩
        conv => whnf
        refine ⟨by show 2 ≤ sizeLine; decide, ?_⟩
        conv => whnf
        refine ⟨by decide, ?_⟩
        conv => whnf
        refine ⟨⟨sh_int _, sh_int _⟩, ?_⟩
        conv => whnf
        refine ⟨rfl, ((31400, _, _, _, _), _), ⟨by show 31400 ≤ 100000; decide, pt, rfl⟩, fun z hz => ?_⟩
        cases hz
        rw [madeL_due.2 p e]
        simp only [frz_pr, frz_nil]
        conv => whnf
        refine ⟨msh, ?_⟩
        conv => whnf
        refine ⟨msh, ?_⟩
        conv => whnf
        refine ⟨⟨sh_str _, sh_str _⟩, ?_⟩
        rw [ne_of]
        rotate_left
        · rfl
        conv => whnf
        refine ⟨sh4, ?_⟩
        conv => whnf
        refine ⟨⟨sh_str _, sh_str _⟩, ?_⟩
        rw [ne_of]
        rotate_left
        · rfl
        conv => whnf
        exact ⟨_, _, _, _, _, _, _, rfl⟩
    rintro _ ⟨o0, o5, o6, o7, o8, o9, o10, rfl⟩
    clear hall pt2 pt3
    conv => whnf
    refine ⟨rfl, P, ⟨ok, rfl⟩, fun z hz => ?_⟩
    cases hz
    conv => whnf
    refine ⟨true, rfl, ?_⟩
    conv => whnf
    refine ⟨rfl, (P, P2), ⟨⟨ok, ok2⟩, rfl⟩, fun z hz => ?_⟩
    cases hz
    conv => whnf
    refine ⟨true, rfl, ?_⟩
    have n1 := ok.n1
    unfold Bk.n at n1
    conv => whnf
    refine ⟨3, rfl, ?_⟩
    conv => whnf
    refine ⟨P.tab, rfl, ?_⟩
    conv => whnf
    refine ⟨_, rfl, ⟨by rw [List.length_map]; omega, by rw [List.length_map]; omega⟩, ?_⟩
    refine ⟨rfl, fun i acc => ∃ F : List Int, acc = F.map .int ∧ F.length ≤ i ∧ (∀ e ∈ F, 0 ≤ e ∧ e < (i : Int)) ∧ F.Pairwise (· < ·), ⟨[], rfl, Nat.le_refl _, fun r hr => by simp at hr, .nil⟩, ?_, ?_⟩
    · rintro i d _ hd ⟨F, rfl, f0, f1, f2⟩
      obtain ⟨il, rfl⟩ := rng_get hd
      have il : i < P.T.length := by rw [List.length_map] at il; omega
      conv => whnf
      refine ⟨P.fin, rfl, ?_⟩
      conv => whnf
      refine ⟨⟨rfl, ints_flat _⟩, ?_⟩
      refine ⟨rfl, br_of (fun _ => ?_) fun _ => ?_⟩
      · refine ⟨?_, ?_⟩
        · rw [List.length_map]
          exact Nat.lt_of_lt_of_le (show F.length < 100 by omega) (by decide)
        conv => whnf
        refine ⟨rfl, F ++ [(i : Int)], by rw [List.map_append]; rfl, by rw [List.length_append]; show _ + 1 ≤ _; omega, fun e he => ?_, ?_⟩
        · rcases List.mem_append.mp he with he | he
          · have := f1 e he; omega
          · rw [List.mem_singleton.mp he]; omega
        · rw [List.pairwise_append]
          refine ⟨f2, List.pairwise_singleton _ _, fun a ha b hb => ?_⟩
          rw [List.mem_singleton.mp hb]
          exact (f1 a ha).2
      · exact ⟨F, rfl, by omega, fun e he => by have := f1 e he; omega, f2⟩
    rintro _ ⟨F, rfl, f0, f1, f2⟩
    have e : ((List.range (((P.T.map rowT).length : Nat) : Int).toNat).map fun i : Nat => D.int (i : Int)).length = P.T.length := by simp
    rw [e] at f0 f1
    have ok3 : Bk.Ok ⟨P.A, P.B, P.T, F⟩ := ⟨ok.a, ok.b, ok.noq, ok.n0, ok.n1, ok.row, fun e he => f1 e he, f2⟩
    conv => whnf
    refine ⟨by show 1 ≤ sizeLine; decide, ?_⟩
    conv => whnf
    refine ⟨by show 4 ≤ sizeLine; decide, ?_⟩
    conv => whnf
    refine ⟨rfl, (P, P), ⟨⟨ok, ok⟩, rfl⟩, fun z hz => ?_⟩
    cases hz
    conv => whnf
    refine ⟨true, rfl, ?_⟩
    conv => whnf
    refine ⟨rfl, (P, ⟨P.A, P.B, P.T, F⟩), ⟨⟨ok, ok3⟩, rfl⟩, fun z hz => ?_⟩
    cases hz
    conv => whnf
    refine ⟨true, rfl, ?_⟩
    conv => whnf
    exact ⟨_, _, _, _, _, _, _, _, _, _, rfl⟩
  · rintro _ ⟨o0, o2, o3, o4, o5, o6, o7, o8, o9, o10, rfl⟩
    conv => whnf
end L_k04

set_option Elab.async false
set_option linter.all false
set_option maxRecDepth 100000
set_option maxHeartbeats 4000000
namespace L_k04
open PySem L2 DL
def dD : He5.DefA := ⟨fun K => He.fAd K ((Str.ofString "_law_deck"), none), (Str.ofString "_law_deck"), (Str.ofString "_law_deck"), defArgs (top 53), defBody (top 53), defScope (top 53), [], []⟩
def d0 : He5.DefA := ⟨fun K => He.fAd K ((Str.ofString "_law_draw"), none), (Str.ofString "_law_draw"), (Str.ofString "_law_draw"), defArgs (top 54), defBody (top 54), defScope (top 54), [], []⟩
def d1 : He5.DefA := ⟨fun K => He.fAd K ((Str.ofString "_law_pick"), none), (Str.ofString "_law_pick"), (Str.ofString "_law_pick"), defArgs (top 55), defBody (top 55), defScope (top 55), [], []⟩
def d2 : He5.DefA := ⟨fun K => He.fAd K ((Str.ofString "_law_parts"), none), (Str.ofString "_law_parts"), (Str.ofString "_law_parts"), defArgs (top 56), defBody (top 56), defScope (top 56), [], []⟩
def d3 : He5.DefA := ⟨fun K => He.fAd K ((Str.ofString "_law_bent_row"), none), (Str.ofString "_law_bent_row"), (Str.ofString "_law_bent_row"), defArgs (top 57), defBody (top 57), defScope (top 57), [], []⟩
def d4 : He5.DefA := ⟨fun K => He.fAd K ((Str.ofString "_law_bent"), none), (Str.ofString "_law_bent"), (Str.ofString "_law_bent"), defArgs (top 58), defBody (top 58), defScope (top 58), [], []⟩
def d5 : He5.DefA := ⟨fun K => He.fAd K ((Str.ofString "_law_is_alphabet"), none), (Str.ofString "_law_is_alphabet"), (Str.ofString "_law_is_alphabet"), defArgs (top 59), defBody (top 59), defScope (top 59), [], []⟩
def d6 : He5.DefA := ⟨fun K => He.fAd K ((Str.ofString "_law_is_state"), none), (Str.ofString "_law_is_state"), (Str.ofString "_law_is_state"), defArgs (top 60), defBody (top 60), defScope (top 60), [], []⟩
def d7 : He5.DefA := ⟨fun K => He.fAd K ((Str.ofString "_law_due"), none), (Str.ofString "_law_due"), (Str.ofString "_law_due"), defArgs (top 61), defBody (top 61), defScope (top 61), [], []⟩
def d8 : He5.DefA := ⟨fun K => He.fAd K ((Str.ofString "has_double"), none), (Str.ofString "has_double"), (Str.ofString "has_double"), defArgs (top 11), defBody (top 11), defScope (top 11), [], []⟩
def d9 : He5.DefA := ⟨fun K => He.fAd K ((Str.ofString "is_alphabet"), none), (Str.ofString "is_alphabet"), (Str.ofString "is_alphabet"), defArgs (top 10), defBody (top 10), defScope (top 10), [], []⟩
def d10 : He5.DefA := ⟨fun K => He.fAd K ((Str.ofString "BadBook"), some (Str.ofString "__init__")), (Str.ofString "__init__"), (Str.ofString "BadBook.__init__"), defArgs (mtop 3 0), defBody (mtop 3 0), defScope (mtop 3 0), [], []⟩
def d11 : He5.DefA := ⟨fun K => He.fAd K ((Str.ofString "is_state"), none), (Str.ofString "is_state"), (Str.ofString "is_state"), defArgs (top 43), defBody (top 43), defScope (top 43), [], []⟩
def d12 : He5.DefA := ⟨fun K => He.fAd K ((Str.ofString "is_row_of"), none), (Str.ofString "is_row_of"), (Str.ofString "is_row_of"), defArgs (top 44), defBody (top 44), defScope (top 44), [], []⟩
def d13 : He5.DefA := ⟨fun K => He.fAd K ((Str.ofString "check_table"), none), (Str.ofString "check_table"), (Str.ofString "check_table"), defArgs (top 46), defBody (top 46), defScope (top 46), [], []⟩
def d14 : He5.DefA := ⟨fun K => He.fAd K ((Str.ofString "are_ascending_states"), none), (Str.ofString "are_ascending_states"), (Str.ofString "are_ascending_states"), defArgs (top 45), defBody (top 45), defScope (top 45), [], []⟩
def d15 : He5.DefA := ⟨fun K => He.fAd K ((Str.ofString "Book"), some (Str.ofString "__init__")), (Str.ofString "__init__"), (Str.ofString "Book.__init__"), defArgs (mtop 51 0), defBody (mtop 51 0), defScope (mtop 51 0), [], []⟩
def d16 : He5.DefA := ⟨fun K => He.fAd K ((Str.ofString "Book"), some (Str.ofString "__len__")), (Str.ofString "__len__"), (Str.ofString "Book.__len__"), defArgs (mtop 51 5), defBody (mtop 51 5), defScope (mtop 51 5), [], []⟩
def d17 : He5.DefA := ⟨fun K => He.fAd K ((Str.ofString "_law_made"), none), (Str.ofString "_law_made"), (Str.ofString "_law_made"), defArgs (top 62), defBody (top 62), defScope (top 62), [], []⟩
def d18 : He5.DefA := ⟨fun K => He.fAd K ((Str.ofString "is_word"), none), (Str.ofString "is_word"), (Str.ofString "is_word"), defArgs (top 12), defBody (top 12), defScope (top 12), [], []⟩
def d19 : He5.DefA := ⟨fun K => He.fAd K ((Str.ofString "BadWord"), some (Str.ofString "__init__")), (Str.ofString "__init__"), (Str.ofString "BadWord.__init__"), defArgs (mtop 4 0), defBody (mtop 4 0), defScope (mtop 4 0), [], []⟩
def d20 : He5.DefA := ⟨fun K => He.fAd K ((Str.ofString "Filter"), some (Str.ofString "__init__")), (Str.ofString "__init__"), (Str.ofString "Filter.__init__"), defArgs (mtop 37 0), defBody (mtop 37 0), defScope (mtop 37 0), [], []⟩
def d21 : He5.DefA := ⟨fun K => He.fAd K ((Str.ofString "Book"), some (Str.ofString "__getitem__")), (Str.ofString "__getitem__"), (Str.ofString "Book.__getitem__"), defArgs (mtop 51 7), defBody (mtop 51 7), defScope (mtop 51 7), [], []⟩
def d22 : He5.DefA := ⟨fun K => He.fAd K ((Str.ofString "Book"), some (Str.ofString "__eq__")), (Str.ofString "__eq__"), (Str.ofString "Book.__eq__"), defArgs (mtop 51 6), defBody (mtop 51 6), defScope (mtop 51 6), [], []⟩
def d23 : He5.DefA := ⟨fun K => He.fAd K ((Str.ofString "_law_filter_of"), none), (Str.ofString "_law_filter_of"), (Str.ofString "_law_filter_of"), defArgs (top 63), defBody (top 63), defScope (top 63), [], []⟩
def d24 : He5.DefA := ⟨fun K => He.fAd K ((Str.ofString "_law_filters_right"), none), (Str.ofString "_law_filters_right"), (Str.ofString "_law_filters_right"), defArgs (top 64), defBody (top 64), defScope (top 64), [], []⟩
def d25 : He5.DefA := ⟨fun K => He.fAd K ((Str.ofString "_law_equal_right"), none), (Str.ofString "_law_equal_right"), (Str.ofString "_law_equal_right"), defArgs (top 65), defBody (top 65), defScope (top 65), [], []⟩
def dL : He5.DefA := ⟨fun K => He.fAd K ((Str.ofString "law"), none), (Str.ofString "law"), (Str.ofString "law"), defArgs (top 66), defBody (top 66), defScope (top 66), [], []⟩
def fn : List He5.DefA := [dD, d0, d1, d2, d3, d4, d5, d6, d7, d8, d9, d10, d11, d12, d13, d14, d15, d16, d17, d18, d19, d20, d21, d22, d23, d24, d25, dL]
def fa : List He.Fa := [.glo (Str.ofString "_law_deck"), .glo (Str.ofString "_law_draw"), .glo (Str.ofString "_law_pick"), .glo (Str.ofString "_law_parts"), .glo (Str.ofString "_law_bent_row"), .glo (Str.ofString "_law_bent"), .glo (Str.ofString "_law_is_alphabet"), .glo (Str.ofString "_law_is_state"), .glo (Str.ofString "_law_due"), .glo (Str.ofString "has_double"), .glo (Str.ofString "is_alphabet"), .glo (Str.ofString "is_state"), .glo (Str.ofString "is_row_of"), .glo (Str.ofString "check_table"), .glo (Str.ofString "are_ascending_states"), .glo (Str.ofString "_law_made"), .glo (Str.ofString "is_word"), .glo (Str.ofString "_law_filter_of"), .glo (Str.ofString "_law_filters_right"), .glo (Str.ofString "_law_equal_right"), .glo (Str.ofString "law"), .int (Str.ofString "MOST_LETTERS") 2, .str (Str.ofString "LETTERS") (Str.ofString "abcdefghijklmnopqrstuvwxyz"), .glo (Str.ofString "BadBook"), .glo (Str.ofString "BadWord"), .glo (Str.ofString "FilterError"), .glo (Str.ofString "Book"), .cls (Str.ofString "Book"), .noat (Str.ofString "Book") (Str.ofString "setting_letters"), .noat (Str.ofString "Book") (Str.ofString "row_letters"), .noat (Str.ofString "Book") (Str.ofString "table"), .noat (Str.ofString "Book") (Str.ofString "accepting"), .glo (Str.ofString "Filter"), .cls (Str.ofString "Filter"), .noat (Str.ofString "Filter") (Str.ofString "book"), .noat (Str.ofString "Filter") (Str.ofString "setting"), .mkr (Str.ofString "Book"), .meth (Str.ofString "Book") (Str.ofString "__len__"), .mkr (Str.ofString "Filter"), .meth (Str.ofString "Book") (Str.ofString "__getitem__"), .meth (Str.ofString "Book") (Str.ofString "__eq__")] ++ bltNms.map (fun x => .free (Str.ofString x))
def fx : List Fx := [.cl (Str.ofString "Book"), .cl (Str.ofString "Filter"), .xc (Str.ofString "BadBook"), .xno (Str.ofString "BadBook") (Str.ofString "part"), .xm (Str.ofString "BadBook") (Str.ofString "BadBook") true, .xm (Str.ofString "BadWord") (Str.ofString "BadBook") false, .xi (Str.ofString "BadBook"), .xc (Str.ofString "BadWord"), .xno (Str.ofString "BadWord") (Str.ofString "word"), .xm (Str.ofString "BadBook") (Str.ofString "BadWord") false, .xm (Str.ofString "BadWord") (Str.ofString "BadWord") true, .xi (Str.ofString "BadWord"), .xb (Str.ofString "FilterError")]
abbrev row : PySem.W.OpenRow := PySem.W.OpenLaw.row PySem.Challenge.rw_sureatlast_k04_books_of_any_value
abbrev hk : PySem.W.Hook := hookY 5 fx fa fn
def ob (s : PySem.W.SharedT) : AlY := obsYG 5 fx fa fn (HandSHeadRun.getT s)
theorem ob_eq (s : PySem.W.SharedT) : ob s = hk.obs s.abs := obsYG_eq (HandSHeadRun.getT_eq s)
def nms : List Str := [(Str.ofString "_wall"), (Str.ofString "FilterError"), (Str.ofString "BadBook"), (Str.ofString "BadWord"), (Str.ofString "OtherLetters"), (Str.ofString "InvalidText"), (Str.ofString "LETTERS"), (Str.ofString "MOST_LETTERS"), (Str.ofString "is_alphabet"), (Str.ofString "has_double"), (Str.ofString "is_word"), (Str.ofString "SETTINGS"), (Str.ofString "ROWS"), (Str.ofString "ACCEPTING"), (Str.ofString "DIGITS"), (Str.ofString "HEAD_LINES"), (Str.ofString "book_text"), (Str.ofString "number_in"), (Str.ofString "alphabet_in"), (Str.ofString "numbers_in"), (Str.ofString "accepting_in"), (Str.ofString "read_line"), (Str.ofString "book_parts"), (Str.ofString "ENDED"), (Str.ofString "place_among"), (Str.ofString "moved"), (Str.ofString "letter_at"), (Str.ofString "state_after"), (Str.ofString "NO_ROW"), (Str.ofString "state_behind"), (Str.ofString "least_row"), (Str.ofString "nodes_ahead"), (Str.ofString "Filter"), (Str.ofString "rows_with"), (Str.ofString "BOTH"), (Str.ofString "EITHER"), (Str.ofString "JUST_ONE"), (Str.ofString "is_state"), (Str.ofString "is_row_of"), (Str.ofString "are_ascending_states"), (Str.ofString "check_table"), (Str.ofString "pairs_of"), (Str.ofString "check_letters"), (Str.ofString "numbered_pairs"), (Str.ofString "joined"), (Str.ofString "Book"), (Str.ofString "_law_deck"), (Str.ofString "_law_draw"), (Str.ofString "_law_pick"), (Str.ofString "_law_parts"), (Str.ofString "_law_bent_row"), (Str.ofString "_law_bent"), (Str.ofString "_law_is_alphabet"), (Str.ofString "_law_is_state"), (Str.ofString "_law_due"), (Str.ofString "_law_made"), (Str.ofString "_law_filter_of"), (Str.ofString "_law_filters_right"), (Str.ofString "_law_equal_right")]
theorem hrun (w : World) : HandSHeadRun.RunEq row (PySem.W.view row.prog [66]) hk ob 8000 nms w := by
  intro os
  kernel_rfl
def kd : DKind := (DKind.dict "left" "blend" "drawn")
def cls0 (K : PySem.W.Frag) : Nat → Addr := fun c => match c with
  | 0 => He.ga K (Str.ofString "Book")
  | 1 => He.ga K (Str.ofString "Filter")
  | _ => 0
def flds0 : Nat → List Str := fun c => cfls.getD c []
abbrev C0 (K : PySem.W.Frag) : XCl := exC K exns exfs
abbrev Rr (K : PySem.W.Frag) (dd dl : Addr) : RP := mkR K (cls0 K) flds0 kd.dob dd dl
def B0 : Nat := 1569275433846670191214159130992620451853704117611204182017
def ND : List Str := [(Str.ofString "script"), (Str.ofString "blend"), (Str.ofString "number")]
theorem scD : FnScope ND [(Str.ofString "script")] (defScope (top 53)) := ⟨rfl, rfl, rfl, by decide +kernel, by decide +kernel, by decide +kernel, by decide +kernel⟩
theorem sc0 : FnScope N0 [(Str.ofString "deck"), (Str.ofString "many")] (defScope (top 54)) := ⟨rfl, rfl, rfl, by decide +kernel, by decide +kernel, by decide +kernel, by decide +kernel⟩
theorem sc1 : FnScope N1 [(Str.ofString "deck"), (Str.ofString "some")] (defScope (top 55)) := ⟨rfl, rfl, rfl, by decide +kernel, by decide +kernel, by decide +kernel, by decide +kernel⟩
theorem sc2 : FnScope N2 [(Str.ofString "deck")] (defScope (top 56)) := ⟨rfl, rfl, rfl, by decide +kernel, by decide +kernel, by decide +kernel, by decide +kernel⟩
theorem sc3 : FnScope N3 [(Str.ofString "deck"), (Str.ofString "row"), (Str.ofString "many")] (defScope (top 57)) := ⟨rfl, rfl, rfl, by decide +kernel, by decide +kernel, by decide +kernel, by decide +kernel⟩
theorem sc4 : FnScope N4 [(Str.ofString "deck"), (Str.ofString "parts")] (defScope (top 58)) := ⟨rfl, rfl, rfl, by decide +kernel, by decide +kernel, by decide +kernel, by decide +kernel⟩
theorem sc5 : FnScope N5 [(Str.ofString "thing")] (defScope (top 59)) := ⟨rfl, rfl, rfl, by decide +kernel, by decide +kernel, by decide +kernel, by decide +kernel⟩
theorem sc6 : FnScope N6 [(Str.ofString "many"), (Str.ofString "thing")] (defScope (top 60)) := ⟨rfl, rfl, rfl, by decide +kernel, by decide +kernel, by decide +kernel, by decide +kernel⟩
theorem sc7 : FnScope N7 [(Str.ofString "parts")] (defScope (top 61)) := ⟨rfl, rfl, rfl, by decide +kernel, by decide +kernel, by decide +kernel, by decide +kernel⟩
theorem sc8 : FnScope N8 [(Str.ofString "text")] (defScope (top 11)) := ⟨rfl, rfl, rfl, by decide +kernel, by decide +kernel, by decide +kernel, by decide +kernel⟩
theorem sc9 : FnScope N9 [(Str.ofString "thing")] (defScope (top 10)) := ⟨rfl, rfl, rfl, by decide +kernel, by decide +kernel, by decide +kernel, by decide +kernel⟩
theorem sc10 : FnScope N10 [(Str.ofString "self"), (Str.ofString "part")] (defScope (mtop 3 0)) := ⟨rfl, rfl, rfl, by decide +kernel, by decide +kernel, by decide +kernel, by decide +kernel⟩
theorem sc11 : FnScope N11 [(Str.ofString "many"), (Str.ofString "thing")] (defScope (top 43)) := ⟨rfl, rfl, rfl, by decide +kernel, by decide +kernel, by decide +kernel, by decide +kernel⟩
theorem sc12 : FnScope N12 [(Str.ofString "many"), (Str.ofString "width"), (Str.ofString "row")] (defScope (top 44)) := ⟨rfl, rfl, rfl, by decide +kernel, by decide +kernel, by decide +kernel, by decide +kernel⟩
theorem sc13 : FnScope N13 [(Str.ofString "width"), (Str.ofString "table")] (defScope (top 46)) := ⟨rfl, rfl, rfl, by decide +kernel, by decide +kernel, by decide +kernel, by decide +kernel⟩
theorem sc14 : FnScope N14 [(Str.ofString "many"), (Str.ofString "thing")] (defScope (top 45)) := ⟨rfl, rfl, rfl, by decide +kernel, by decide +kernel, by decide +kernel, by decide +kernel⟩
theorem sc15 : FnScope N15 [(Str.ofString "self"), (Str.ofString "setting_letters"), (Str.ofString "row_letters"), (Str.ofString "table"), (Str.ofString "accepting")] (defScope (mtop 51 0)) := ⟨rfl, rfl, rfl, by decide +kernel, by decide +kernel, by decide +kernel, by decide +kernel⟩
theorem sc16 : FnScope N16 [(Str.ofString "self")] (defScope (mtop 51 5)) := ⟨rfl, rfl, rfl, by decide +kernel, by decide +kernel, by decide +kernel, by decide +kernel⟩
theorem sc17 : FnScope N17 [(Str.ofString "parts"), (Str.ofString "by_name")] (defScope (top 62)) := ⟨rfl, rfl, rfl, by decide +kernel, by decide +kernel, by decide +kernel, by decide +kernel⟩
theorem sc18 : FnScope N18 [(Str.ofString "alphabet"), (Str.ofString "thing")] (defScope (top 12)) := ⟨rfl, rfl, rfl, by decide +kernel, by decide +kernel, by decide +kernel, by decide +kernel⟩
theorem sc19 : FnScope N19 [(Str.ofString "self"), (Str.ofString "word")] (defScope (mtop 4 0)) := ⟨rfl, rfl, rfl, by decide +kernel, by decide +kernel, by decide +kernel, by decide +kernel⟩
theorem sc20 : FnScope N20 [(Str.ofString "self"), (Str.ofString "book"), (Str.ofString "setting")] (defScope (mtop 37 0)) := ⟨rfl, rfl, rfl, by decide +kernel, by decide +kernel, by decide +kernel, by decide +kernel⟩
theorem sc21 : FnScope N21 [(Str.ofString "self"), (Str.ofString "setting")] (defScope (mtop 51 7)) := ⟨rfl, rfl, rfl, by decide +kernel, by decide +kernel, by decide +kernel, by decide +kernel⟩
theorem sc22 : FnScope N22 [(Str.ofString "self"), (Str.ofString "other")] (defScope (mtop 51 6)) := ⟨rfl, rfl, rfl, by decide +kernel, by decide +kernel, by decide +kernel, by decide +kernel⟩
theorem sc23 : FnScope N23 [(Str.ofString "book"), (Str.ofString "word")] (defScope (top 63)) := ⟨rfl, rfl, rfl, by decide +kernel, by decide +kernel, by decide +kernel, by decide +kernel⟩
theorem sc24 : FnScope N24 [(Str.ofString "deck"), (Str.ofString "parts")] (defScope (top 64)) := ⟨rfl, rfl, rfl, by decide +kernel, by decide +kernel, by decide +kernel, by decide +kernel⟩
theorem sc25 : FnScope N25 [(Str.ofString "parts"), (Str.ofString "others")] (defScope (top 65)) := ⟨rfl, rfl, rfl, by decide +kernel, by decide +kernel, by decide +kernel, by decide +kernel⟩
theorem scL : FnScope NL [(Str.ofString "script")] (defScope (top 66)) := ⟨rfl, rfl, rfl, by decide +kernel, by decide +kernel, by decide +kernel, by decide +kernel⟩
theorem c1 : chkSs Γ 1 2 N1 (defScope (top 55)) (fun _ => true) b1 ((defBody (top 55))) = true := by decide +kernel
theorem c2 : chkSs Γ 2 2 N2 (defScope (top 56)) (fun _ => true) b2 ((defBody (top 56))) = true := by decide +kernel
theorem c3 : chkSs Γ 3 2 N3 (defScope (top 57)) (fun _ => true) b3 ((defBody (top 57))) = true := by decide +kernel
theorem c4 : chkSs Γ 4 2 N4 (defScope (top 58)) (fun _ => true) b4 ((defBody (top 58))) = true := by decide +kernel
theorem c5 : chkSs Γ 5 2 N5 (defScope (top 59)) (fun _ => true) b5 ((defBody (top 59))) = true := by decide +kernel
theorem c6 : chkSs Γ 6 2 N6 (defScope (top 60)) (fun _ => true) b6 ((defBody (top 60))) = true := by decide +kernel
theorem c7 : chkSs Γ 7 2 N7 (defScope (top 61)) (fun _ => true) b7 ((defBody (top 61))) = true := by decide +kernel
theorem c8 : chkSs Γ 8 2 N8 (defScope (top 11)) (fun _ => true) b8 ((defBody (top 11))) = true := by decide +kernel
theorem c9 : chkSs Γ 9 2 N9 (defScope (top 10)) (fun _ => true) b9 ((defBody (top 10))) = true := by decide +kernel
theorem c11 : chkSs Γ 11 2 N11 (defScope (top 43)) (fun _ => true) b11 ((defBody (top 43))) = true := by decide +kernel
theorem c12 : chkSs Γ 12 2 N12 (defScope (top 44)) (fun _ => true) b12 ((defBody (top 44))) = true := by decide +kernel
theorem c13 : chkSs Γ 13 2 N13 (defScope (top 46)) (fun _ => true) b13 ((defBody (top 46))) = true := by decide +kernel
theorem c14 : chkSs Γ 14 2 N14 (defScope (top 45)) (fun _ => true) b14 ((defBody (top 45))) = true := by decide +kernel
theorem c15 : chkSs Γ 15 2 N15 (defScope (mtop 51 0)) (fun _ => true) b15 ((defBody (mtop 51 0)).take 4) = true := by decide +kernel
theorem t15 : chkT N15 (defScope (mtop 51 0)) (Γ.cfl 0) [1, 2, 3, 4] ((defBody (mtop 51 0)).drop 4) = true := by decide +kernel
theorem c16 : chkSs Γ 16 2 N16 (defScope (mtop 51 5)) (fun _ => true) b16 ((defBody (mtop 51 5))) = true := by decide +kernel
theorem c17 : chkSs Γ 17 2 N17 (defScope (top 62)) (fun _ => true) b17 ((defBody (top 62))) = true := by decide +kernel
theorem c18 : chkSs Γ 18 2 N18 (defScope (top 12)) (fun _ => true) b18 ((defBody (top 12))) = true := by decide +kernel
theorem c20 : chkSs Γ 20 2 N20 (defScope (mtop 37 0)) (fun _ => true) b20 ((defBody (mtop 37 0)).take 0) = true := by decide +kernel
theorem t20 : chkT N20 (defScope (mtop 37 0)) (Γ.cfl 1) [1, 2] ((defBody (mtop 37 0)).drop 0) = true := by decide +kernel
theorem c21 : chkSs Γ 21 2 N21 (defScope (mtop 51 7)) (fun _ => true) b21 ((defBody (mtop 51 7))) = true := by decide +kernel
theorem c22 : chkSs Γ 22 2 N22 (defScope (mtop 51 6)) (fun _ => true) b22 ((defBody (mtop 51 6))) = true := by decide +kernel
theorem c23 : chkSs Γ 23 2 N23 (defScope (top 63)) (fun _ => true) b23 ((defBody (top 63))) = true := by decide +kernel
theorem c24 : chkSs Γ 24 2 N24 (defScope (top 64)) (fun _ => true) b24 ((defBody (top 64))) = true := by decide +kernel
theorem c25 : chkSs Γ 25 2 N25 (defScope (top 65)) (fun _ => true) b25 ((defBody (top 65))) = true := by decide +kernel
theorem cL : chkSs Γ 26 2 NL (defScope (top 66)) (fun _ => true) bL ((defBody (top 66)).tail) = true := by decide +kernel
theorem c0 : chkZs kd N0 (defScope (top 54)) (Str.ofString "deck") b0 (defBody (top 54)) = true := by decide +kernel
section
variable {h : Heap} {P : Program} {w : World} {K : PySem.W.Frag} {mg : Str → Option Value} {base : Heap} (c : SaysY fx fa fn K) (X : K.In h) (G : h.Ns mainGlobals mg)
include c X G
theorem bl : ∀ id, id ∈ bltNms → mg (Str.ofString id) = none := fun id hid => He.free_ok X G (fact_mem c (List.mem_append_right _ (List.mem_map_of_mem (f := fun x => He.Fa.free (Str.ofString x)) hid)))
theorem gD : mg (Str.ofString "_law_deck") = some (.ref (He.ga K (Str.ofString "_law_deck"))) := He.glo_ok X G (c.d.fact 0 (f := .glo (Str.ofString "_law_deck")) rfl)
theorem g0 : mg (Str.ofString "_law_draw") = some (.ref (He.ga K (Str.ofString "_law_draw"))) := He.glo_ok X G (c.d.fact 1 (f := .glo (Str.ofString "_law_draw")) rfl)
theorem g1 : mg (Str.ofString "_law_pick") = some (.ref (He.ga K (Str.ofString "_law_pick"))) := He.glo_ok X G (c.d.fact 2 (f := .glo (Str.ofString "_law_pick")) rfl)
theorem g2 : mg (Str.ofString "_law_parts") = some (.ref (He.ga K (Str.ofString "_law_parts"))) := He.glo_ok X G (c.d.fact 3 (f := .glo (Str.ofString "_law_parts")) rfl)
theorem g3 : mg (Str.ofString "_law_bent_row") = some (.ref (He.ga K (Str.ofString "_law_bent_row"))) := He.glo_ok X G (c.d.fact 4 (f := .glo (Str.ofString "_law_bent_row")) rfl)
theorem g4 : mg (Str.ofString "_law_bent") = some (.ref (He.ga K (Str.ofString "_law_bent"))) := He.glo_ok X G (c.d.fact 5 (f := .glo (Str.ofString "_law_bent")) rfl)
theorem g5 : mg (Str.ofString "_law_is_alphabet") = some (.ref (He.ga K (Str.ofString "_law_is_alphabet"))) := He.glo_ok X G (c.d.fact 6 (f := .glo (Str.ofString "_law_is_alphabet")) rfl)
theorem g6 : mg (Str.ofString "_law_is_state") = some (.ref (He.ga K (Str.ofString "_law_is_state"))) := He.glo_ok X G (c.d.fact 7 (f := .glo (Str.ofString "_law_is_state")) rfl)
theorem g7 : mg (Str.ofString "_law_due") = some (.ref (He.ga K (Str.ofString "_law_due"))) := He.glo_ok X G (c.d.fact 8 (f := .glo (Str.ofString "_law_due")) rfl)
theorem g8 : mg (Str.ofString "has_double") = some (.ref (He.ga K (Str.ofString "has_double"))) := He.glo_ok X G (c.d.fact 9 (f := .glo (Str.ofString "has_double")) rfl)
theorem g9 : mg (Str.ofString "is_alphabet") = some (.ref (He.ga K (Str.ofString "is_alphabet"))) := He.glo_ok X G (c.d.fact 10 (f := .glo (Str.ofString "is_alphabet")) rfl)
theorem g11 : mg (Str.ofString "is_state") = some (.ref (He.ga K (Str.ofString "is_state"))) := He.glo_ok X G (c.d.fact 11 (f := .glo (Str.ofString "is_state")) rfl)
theorem g12 : mg (Str.ofString "is_row_of") = some (.ref (He.ga K (Str.ofString "is_row_of"))) := He.glo_ok X G (c.d.fact 12 (f := .glo (Str.ofString "is_row_of")) rfl)
theorem g13 : mg (Str.ofString "check_table") = some (.ref (He.ga K (Str.ofString "check_table"))) := He.glo_ok X G (c.d.fact 13 (f := .glo (Str.ofString "check_table")) rfl)
theorem g14 : mg (Str.ofString "are_ascending_states") = some (.ref (He.ga K (Str.ofString "are_ascending_states"))) := He.glo_ok X G (c.d.fact 14 (f := .glo (Str.ofString "are_ascending_states")) rfl)
theorem g17 : mg (Str.ofString "_law_made") = some (.ref (He.ga K (Str.ofString "_law_made"))) := He.glo_ok X G (c.d.fact 15 (f := .glo (Str.ofString "_law_made")) rfl)
theorem g18 : mg (Str.ofString "is_word") = some (.ref (He.ga K (Str.ofString "is_word"))) := He.glo_ok X G (c.d.fact 16 (f := .glo (Str.ofString "is_word")) rfl)
theorem g23 : mg (Str.ofString "_law_filter_of") = some (.ref (He.ga K (Str.ofString "_law_filter_of"))) := He.glo_ok X G (c.d.fact 17 (f := .glo (Str.ofString "_law_filter_of")) rfl)
theorem g24 : mg (Str.ofString "_law_filters_right") = some (.ref (He.ga K (Str.ofString "_law_filters_right"))) := He.glo_ok X G (c.d.fact 18 (f := .glo (Str.ofString "_law_filters_right")) rfl)
theorem g25 : mg (Str.ofString "_law_equal_right") = some (.ref (He.ga K (Str.ofString "_law_equal_right"))) := He.glo_ok X G (c.d.fact 19 (f := .glo (Str.ofString "_law_equal_right")) rfl)
theorem gL : mg (Str.ofString "law") = some (.ref (He.ga K (Str.ofString "law"))) := He.glo_ok X G (c.d.fact 20 (f := .glo (Str.ofString "law")) rfl)
theorem gC0 : mg (Str.ofString "Book") = some (.ref (He.ga K (Str.ofString "Book"))) := He.glo_ok X G (c.d.fact 26 (f := .glo (Str.ofString "Book")) rfl)
theorem co0 (dd dl : Addr) : COk (Rr K dd dl) Γ K mg 0 := by
  refine coOf (c := 0) (He.cls_ok (c.d.fact 27 (f := .cls (Str.ofString "Book")) rfl)) (clB_ok (c.fx 0 (f := .cl (Str.ofString "Book")) rfl)) rfl (by decide +kernel) (fun nm hm => ?_) (gC0 c X G)
  rw [show Γ.cfl 0 = [(Str.ofString "setting_letters"), (Str.ofString "row_letters"), (Str.ofString "table"), (Str.ofString "accepting")] from rfl] at hm
  simp only [List.mem_cons, List.not_mem_nil, or_false] at hm
  rcases hm with rfl | rfl | rfl | rfl
  · exact He.noat_ok (c.d.fact 28 (f := .noat (Str.ofString "Book") (Str.ofString "setting_letters")) rfl)
  · exact He.noat_ok (c.d.fact 29 (f := .noat (Str.ofString "Book") (Str.ofString "row_letters")) rfl)
  · exact He.noat_ok (c.d.fact 30 (f := .noat (Str.ofString "Book") (Str.ofString "table")) rfl)
  · exact He.noat_ok (c.d.fact 31 (f := .noat (Str.ofString "Book") (Str.ofString "accepting")) rfl)
theorem gC1 : mg (Str.ofString "Filter") = some (.ref (He.ga K (Str.ofString "Filter"))) := He.glo_ok X G (c.d.fact 32 (f := .glo (Str.ofString "Filter")) rfl)
theorem co1 (dd dl : Addr) : COk (Rr K dd dl) Γ K mg 1 := by
  refine coOf (c := 1) (He.cls_ok (c.d.fact 33 (f := .cls (Str.ofString "Filter")) rfl)) (clB_ok (c.fx 1 (f := .cl (Str.ofString "Filter")) rfl)) rfl (by decide +kernel) (fun nm hm => ?_) (gC1 c X G)
  rw [show Γ.cfl 1 = [(Str.ofString "book"), (Str.ofString "setting")] from rfl] at hm
  simp only [List.mem_cons, List.not_mem_nil, or_false] at hm
  rcases hm with rfl | rfl
  · exact He.noat_ok (c.d.fact 34 (f := .noat (Str.ofString "Filter") (Str.ofString "book")) rfl)
  · exact He.noat_ok (c.d.fact 35 (f := .noat (Str.ofString "Filter") (Str.ofString "setting")) rfl)
theorem gXBadBook : mg (Str.ofString "BadBook") = some (.ref (He.ga K (Str.ofString "BadBook"))) := He.glo_ok X G (c.d.fact 23 (f := .glo (Str.ofString "BadBook")) rfl)
theorem gXBadWord : mg (Str.ofString "BadWord") = some (.ref (He.ga K (Str.ofString "BadWord"))) := He.glo_ok X G (c.d.fact 24 (f := .glo (Str.ofString "BadWord")) rfl)
theorem gXFilterError : mg (Str.ofString "FilterError") = some (.ref (He.ga K (Str.ofString "FilterError"))) := He.glo_ok X G (c.d.fact 25 (f := .glo (Str.ofString "FilterError")) rfl)
theorem ex0 : EOk (C0 K) Γ K mg 0 := by
  refine eok_of (gXBadBook c X G) rfl (oexB_ok (c.fx 2 (f := .xc (Str.ofString "BadBook")) rfl)).2 (fun f hf => ?_) fun k hk => ?_
  · rw [show Γ.exf 0 = [(Str.ofString "part")] from rfl] at hf
    simp only [List.mem_cons, List.not_mem_nil, or_false] at hf
    rcases hf with rfl
    · exact He.eqO_ok (c.fx 3 (f := .xno (Str.ofString "BadBook") (Str.ofString "part")) rfl)
  · match k, hk with
    | 0, _ => exact of_decide_eq_true (c.fx 4 (f := .xm (Str.ofString "BadBook") (Str.ofString "BadBook") true) rfl)
    | 1, _ => exact of_decide_eq_true (c.fx 5 (f := .xm (Str.ofString "BadWord") (Str.ofString "BadBook") false) rfl)
    | n + 2, h => exact absurd (show n + 2 < 2 from h) (by omega)
theorem ex1 : EOk (C0 K) Γ K mg 1 := by
  refine eok_of (gXBadWord c X G) rfl (oexB_ok (c.fx 7 (f := .xc (Str.ofString "BadWord")) rfl)).2 (fun f hf => ?_) fun k hk => ?_
  · rw [show Γ.exf 1 = [(Str.ofString "word")] from rfl] at hf
    simp only [List.mem_cons, List.not_mem_nil, or_false] at hf
    rcases hf with rfl
    · exact He.eqO_ok (c.fx 8 (f := .xno (Str.ofString "BadWord") (Str.ofString "word")) rfl)
  · match k, hk with
    | 0, _ => exact of_decide_eq_true (c.fx 9 (f := .xm (Str.ofString "BadBook") (Str.ofString "BadWord") false) rfl)
    | 1, _ => exact of_decide_eq_true (c.fx 10 (f := .xm (Str.ofString "BadWord") (Str.ofString "BadWord") true) rfl)
    | n + 2, h => exact absurd (show n + 2 < 2 from h) (by omega)
theorem sy (dd dl : Addr) : Sys (Rr K dd dl) (C0 K) Γ 2 K mg := by
  refine ⟨rfl, mkR_hat, c.sys, fun ci hc => ?_, fun g hg => ?_, bl c X G, rfl, fun xi hx => ?_⟩
  rotate_right
  · match xi, hx with
    | 0, _ => exact ex0 c X G
    | 1, _ => exact ex1 c X G
    | n + 2, h => exact absurd (show n + 2 < 2 from h) (by omega)
  · match ci, hc with
    | 0, _ => exact co0 c X G dd dl
    | 1, _ => exact co1 c X G dd dl
    | n + 2, h => exact absurd (show n + 2 < 2 from h) (by omega)
  match g, hg with
  | 0, _ =>
    obtain ⟨t, e⟩ := He.int_ok X G (c.d.fact 21 (f := .int (Str.ofString "MOST_LETTERS") 2) rfl)
    exact ⟨_, .int _, e, ⟨t, rfl⟩, fun _ _ => .int _⟩
  | 1, _ =>
    obtain ⟨t, e⟩ := He.str_ok X G (c.d.fact 22 (f := .str (Str.ofString "LETTERS") (Str.ofString "abcdefghijklmnopqrstuvwxyz")) rfl)
    exact ⟨_, .str _, e, ⟨t, rfl⟩, fun _ _ => .str _ ⟨by decide +kernel, by decide +kernel⟩⟩
  | n + 2, h => exact absurd h (by omega)
theorem f0 (dd dl : Addr) : ∀ f, f < 1 → FnD (Rr K dd dl) (C0 K) Γ B0 P w K mg base 1 f := by
  obtain ⟨fd, F⟩ := c.d.def_ 1 (d := d0) rfl
  refine fns_succ (fun f hf => absurd hf (by omega)) ?_
  refine fnD_of F ((draw_fn F sc0 (by decide +kernel) rfl (by decide +kernel) (by decide +kernel) (by decide +kernel) (bl c X G) c0 (tyDone_ok (by decide +kernel)) (by decide +kernel)).imp (spP.imp fun _ _ _ h => ctDraw_le h)) (g0 c X G) rfl (F.bindsN fun _ _ _ _ _ _ us hl => match us, hl with | [_, _], _ => rfl) (fun j hj => ?_) rfl
  · match j, hj with
    | 0, hj => exact absurd (show (15 : Nat) = 0 from hj) (by decide)
    | _ + 1, hj => exact absurd (show (1000000 : Nat) = 0 from hj) (by decide)
theorem f1 (dd dl : Addr) : ∀ f, f < 2 → FnD (Rr K dd dl) (C0 K) Γ B0 P w K mg base 2 f := by
  obtain ⟨fd, F⟩ := c.d.def_ 2 (d := d1) rfl
  refine fns_succ (f0 c X G dd dl) ?_
  refine fnD_of F (fn_chk F sc1 (sy c X G dd dl) (f0 c X G dd dl) rfl c1 (by decide +kernel) fun ds Q x _ h => p1 h) (g1 c X G) rfl (F.bindsN fun _ _ _ _ _ _ us hl => match us, hl with | [_, _], _ => rfl) (fun j hj => ?_) rfl
  · match j, hj with
    | 0, hj => exact absurd (show (15 : Nat) = 1 from hj) (by decide)
    | _ + 1, hj => exact absurd (show (1000000 : Nat) = 1 from hj) (by decide)
theorem f2 (dd dl : Addr) : ∀ f, f < 3 → FnD (Rr K dd dl) (C0 K) Γ B0 P w K mg base 3 f := by
  obtain ⟨fd, F⟩ := c.d.def_ 3 (d := d2) rfl
  refine fns_succ (f1 c X G dd dl) ?_
  refine fnD_of F (fn_chk F sc2 (sy c X G dd dl) (f1 c X G dd dl) rfl c2 (by decide +kernel) fun ds Q x _ h => p2 h) (g2 c X G) rfl (F.bindsN fun _ _ _ _ _ _ us hl => match us, hl with | [_], _ => rfl) (fun j hj => ?_) rfl
  · match j, hj with
    | 0, hj => exact absurd (show (15 : Nat) = 2 from hj) (by decide)
    | _ + 1, hj => exact absurd (show (1000000 : Nat) = 2 from hj) (by decide)
theorem f3 (dd dl : Addr) : ∀ f, f < 4 → FnD (Rr K dd dl) (C0 K) Γ B0 P w K mg base 4 f := by
  obtain ⟨fd, F⟩ := c.d.def_ 4 (d := d3) rfl
  refine fns_succ (f2 c X G dd dl) ?_
  refine fnD_of F (fn_chk F sc3 (sy c X G dd dl) (f2 c X G dd dl) rfl c3 (by decide +kernel) fun ds Q x _ h => p3 h) (g3 c X G) rfl (F.bindsN fun _ _ _ _ _ _ us hl => match us, hl with | [_, _, _], _ => rfl) (fun j hj => ?_) rfl
  · match j, hj with
    | 0, hj => exact absurd (show (15 : Nat) = 3 from hj) (by decide)
    | _ + 1, hj => exact absurd (show (1000000 : Nat) = 3 from hj) (by decide)
theorem f4 (dd dl : Addr) : ∀ f, f < 5 → FnD (Rr K dd dl) (C0 K) Γ B0 P w K mg base 5 f := by
  obtain ⟨fd, F⟩ := c.d.def_ 5 (d := d4) rfl
  refine fns_succ (f3 c X G dd dl) ?_
  refine fnD_of F (fn_chk F sc4 (sy c X G dd dl) (f3 c X G dd dl) rfl c4 (by decide +kernel) fun ds Q x _ h => p4 h) (g4 c X G) rfl (F.bindsN fun _ _ _ _ _ _ us hl => match us, hl with | [_, _], _ => rfl) (fun j hj => ?_) rfl
  · match j, hj with
    | 0, hj => exact absurd (show (15 : Nat) = 4 from hj) (by decide)
    | _ + 1, hj => exact absurd (show (1000000 : Nat) = 4 from hj) (by decide)
theorem f5 (dd dl : Addr) : ∀ f, f < 6 → FnD (Rr K dd dl) (C0 K) Γ B0 P w K mg base 6 f := by
  obtain ⟨fd, F⟩ := c.d.def_ 6 (d := d5) rfl
  refine fns_succ (f4 c X G dd dl) ?_
  refine fnD_of F (fn_chk F sc5 (sy c X G dd dl) (f4 c X G dd dl) rfl c5 (by decide +kernel) fun ds Q x _ h => p5 h) (g5 c X G) rfl (F.bindsN fun _ _ _ _ _ _ us hl => match us, hl with | [_], _ => rfl) (fun j hj => ?_) rfl
  · match j, hj with
    | 0, hj => exact absurd (show (15 : Nat) = 5 from hj) (by decide)
    | _ + 1, hj => exact absurd (show (1000000 : Nat) = 5 from hj) (by decide)
theorem f6 (dd dl : Addr) : ∀ f, f < 7 → FnD (Rr K dd dl) (C0 K) Γ B0 P w K mg base 7 f := by
  obtain ⟨fd, F⟩ := c.d.def_ 7 (d := d6) rfl
  refine fns_succ (f5 c X G dd dl) ?_
  refine fnD_of F (fn_chk F sc6 (sy c X G dd dl) (f5 c X G dd dl) rfl c6 (by decide +kernel) fun ds Q x _ h => p6 h) (g6 c X G) rfl (F.bindsN fun _ _ _ _ _ _ us hl => match us, hl with | [_, _], _ => rfl) (fun j hj => ?_) rfl
  · match j, hj with
    | 0, hj => exact absurd (show (15 : Nat) = 6 from hj) (by decide)
    | _ + 1, hj => exact absurd (show (1000000 : Nat) = 6 from hj) (by decide)
theorem f7 (dd dl : Addr) : ∀ f, f < 8 → FnD (Rr K dd dl) (C0 K) Γ B0 P w K mg base 8 f := by
  obtain ⟨fd, F⟩ := c.d.def_ 8 (d := d7) rfl
  refine fns_succ (f6 c X G dd dl) ?_
  refine fnD_of F (fn_chk F sc7 (sy c X G dd dl) (f6 c X G dd dl) rfl c7 (by decide +kernel) fun ds Q x _ h => p7 h) (g7 c X G) rfl (F.bindsN fun _ _ _ _ _ _ us hl => match us, hl with | [_], _ => rfl) (fun j hj => ?_) rfl
  · match j, hj with
    | 0, hj => exact absurd (show (15 : Nat) = 7 from hj) (by decide)
    | _ + 1, hj => exact absurd (show (1000000 : Nat) = 7 from hj) (by decide)
theorem f8 (dd dl : Addr) : ∀ f, f < 9 → FnD (Rr K dd dl) (C0 K) Γ B0 P w K mg base 9 f := by
  obtain ⟨fd, F⟩ := c.d.def_ 9 (d := d8) rfl
  refine fns_succ (f7 c X G dd dl) ?_
  refine fnD_of F (fn_chk F sc8 (sy c X G dd dl) (f7 c X G dd dl) rfl c8 (by decide +kernel) fun ds Q x _ h => p8 h) (g8 c X G) rfl (F.bindsN fun _ _ _ _ _ _ us hl => match us, hl with | [_], _ => rfl) (fun j hj => ?_) rfl
  · match j, hj with
    | 0, hj => exact absurd (show (15 : Nat) = 8 from hj) (by decide)
    | _ + 1, hj => exact absurd (show (1000000 : Nat) = 8 from hj) (by decide)
theorem f9 (dd dl : Addr) : ∀ f, f < 10 → FnD (Rr K dd dl) (C0 K) Γ B0 P w K mg base 10 f := by
  obtain ⟨fd, F⟩ := c.d.def_ 10 (d := d9) rfl
  refine fns_succ (f8 c X G dd dl) ?_
  refine fnD_of F (fn_chk F sc9 (sy c X G dd dl) (f8 c X G dd dl) rfl c9 (by decide +kernel) fun ds Q x _ h => p9 h) (g9 c X G) rfl (F.bindsN fun _ _ _ _ _ _ us hl => match us, hl with | [_], _ => rfl) (fun j hj => ?_) rfl
  · match j, hj with
    | 0, hj => exact absurd (show (15 : Nat) = 9 from hj) (by decide)
    | _ + 1, hj => exact absurd (show (1000000 : Nat) = 9 from hj) (by decide)
theorem f10 (dd dl : Addr) : ∀ f, f < 11 → FnD (Rr K dd dl) (C0 K) Γ B0 P w K mg base 11 f := by
  obtain ⟨fd, F⟩ := c.d.def_ 11 (d := d10) rfl
  refine fns_succ (f9 c X G dd dl) ?_
  have hi := and2 (c.fx 6 (f := .xi (Str.ofString "BadBook")) rfl)
  have xf : XiF K mg (defScope (mtop 3 0)) (Str.ofString "FilterError") (He.ga K (Str.ofString "FilterError")) (He.ga K (Str.ofString "BadBook")) (.type "type") := ⟨by decide +kernel, gXFilterError c X G, (xbB_ok (c.fx 12 (f := .xb (Str.ofString "FilterError")) rfl)).1, (xbB_ok (c.fx 12 (f := .xb (Str.ofString "FilterError")) rfl)).2, (oexB_ok (c.fx 2 (f := .xc (Str.ofString "BadBook")) rfl)).1⟩
  have G1 := xi_fn1 (base := base) (P := P) (w := w) F sc10 rfl xf (He.eqO_ok (c.fx 3 (f := .xno (Str.ofString "BadBook") (Str.ofString "part")) rfl)) rfl rfl (by decide +kernel) (by decide +kernel) (by decide +kernel)
  exact fnX_of (c := 0) (Ca := He.ga K (Str.ofString "BadBook")) G1 rfl xf.T (He.eqO_ok hi.1) (of_decide_eq_true hi.2) rfl (F.bindsN fun _ _ _ _ _ _ us hl => match us, hl with | [_, _], _ => rfl) rfl
theorem f11 (dd dl : Addr) : ∀ f, f < 12 → FnD (Rr K dd dl) (C0 K) Γ B0 P w K mg base 12 f := by
  obtain ⟨fd, F⟩ := c.d.def_ 12 (d := d11) rfl
  refine fns_succ (f10 c X G dd dl) ?_
  refine fnD_of F (fn_chk F sc11 (sy c X G dd dl) (f10 c X G dd dl) rfl c11 (by decide +kernel) fun ds Q x _ h => p11 h) (g11 c X G) rfl (F.bindsN fun _ _ _ _ _ _ us hl => match us, hl with | [_, _], _ => rfl) (fun j hj => ?_) rfl
  · match j, hj with
    | 0, hj => exact absurd (show (15 : Nat) = 11 from hj) (by decide)
    | _ + 1, hj => exact absurd (show (1000000 : Nat) = 11 from hj) (by decide)
theorem f12 (dd dl : Addr) : ∀ f, f < 13 → FnD (Rr K dd dl) (C0 K) Γ B0 P w K mg base 13 f := by
  obtain ⟨fd, F⟩ := c.d.def_ 13 (d := d12) rfl
  refine fns_succ (f11 c X G dd dl) ?_
  refine fnD_of F (fn_chk F sc12 (sy c X G dd dl) (f11 c X G dd dl) rfl c12 (by decide +kernel) fun ds Q x _ h => p12 h) (g12 c X G) rfl (F.bindsN fun _ _ _ _ _ _ us hl => match us, hl with | [_, _, _], _ => rfl) (fun j hj => ?_) rfl
  · match j, hj with
    | 0, hj => exact absurd (show (15 : Nat) = 12 from hj) (by decide)
    | _ + 1, hj => exact absurd (show (1000000 : Nat) = 12 from hj) (by decide)
theorem f13 (dd dl : Addr) : ∀ f, f < 14 → FnD (Rr K dd dl) (C0 K) Γ B0 P w K mg base 14 f := by
  obtain ⟨fd, F⟩ := c.d.def_ 14 (d := d13) rfl
  refine fns_succ (f12 c X G dd dl) ?_
  refine fnD_of F (fn_chk F sc13 (sy c X G dd dl) (f12 c X G dd dl) rfl c13 (by decide +kernel) fun ds Q x _ h => p13 h) (g13 c X G) rfl (F.bindsN fun _ _ _ _ _ _ us hl => match us, hl with | [_, _], _ => rfl) (fun j hj => ?_) rfl
  · match j, hj with
    | 0, hj => exact absurd (show (15 : Nat) = 13 from hj) (by decide)
    | _ + 1, hj => exact absurd (show (1000000 : Nat) = 13 from hj) (by decide)
theorem f14 (dd dl : Addr) : ∀ f, f < 15 → FnD (Rr K dd dl) (C0 K) Γ B0 P w K mg base 15 f := by
  obtain ⟨fd, F⟩ := c.d.def_ 15 (d := d14) rfl
  refine fns_succ (f13 c X G dd dl) ?_
  refine fnD_of F (fn_chk F sc14 (sy c X G dd dl) (f13 c X G dd dl) rfl c14 (by decide +kernel) fun ds Q x _ h => p14 h) (g14 c X G) rfl (F.bindsN fun _ _ _ _ _ _ us hl => match us, hl with | [_, _], _ => rfl) (fun j hj => ?_) rfl
  · match j, hj with
    | 0, hj => exact absurd (show (15 : Nat) = 14 from hj) (by decide)
    | _ + 1, hj => exact absurd (show (1000000 : Nat) = 14 from hj) (by decide)
theorem f15 (dd dl : Addr) : ∀ f, f < 16 → FnD (Rr K dd dl) (C0 K) Γ B0 P w K mg base 16 f := by
  obtain ⟨fd, F⟩ := c.d.def_ 16 (d := d15) rfl
  refine fns_succ (f14 c X G dd dl) ?_
  refine fnN_of (init_chk F sc15 (sy c X G dd dl) (fun a => ⟨2 * a + 1, mkR_adr a⟩) (f14 c X G dd dl) rfl (List.take_append_drop 4 _).symm c15 t15 (by decide) (by decide) (by decide +kernel) fun ds Q x _ h => p15 h) (gC0 c X G) (He.mkr_ok (c.d.fact 36 (f := .mkr (Str.ofString "Book")) rfl)) rfl (F.bindsN fun _ _ _ _ _ _ us hl => match us, hl with | [_, _, _, _, _], _ => rfl) (fun j hj => ?_) rfl
  · match j, hj with
    | 0, _ => exact ⟨_, _, [], kb0 F 1 [(Str.ofString "accepting"), (Str.ofString "table"), (Str.ofString "row_letters"), (Str.ofString "setting_letters")] [0, 4, 3, 2, 1] (fun kV doc pm an cdv ct us ws h1 h2 => match us, h1, ws, h2 with | [_], _, [_, _, _, _], _ => rfl), fun _ _ => .nil, by decide, fun s vs zs h1 _ => match vs, h1 with | [], _ => by rw [List.append_nil]; rfl⟩
    | _ + 1, hj => exact absurd (show (1000000 : Nat) = 15 from hj) (by decide)
theorem f16 (dd dl : Addr) : ∀ f, f < 17 → FnD (Rr K dd dl) (C0 K) Γ B0 P w K mg base 17 f := by
  obtain ⟨fd, F⟩ := c.d.def_ 17 (d := d16) rfl
  refine fns_succ (f15 c X G dd dl) ?_
  refine fnM_of (c := 0) F (fn_chk F sc16 (sy c X G dd dl) (f15 c X G dd dl) rfl c16 (by decide +kernel) fun ds Q x _ h => p16 h) (He.meth_ok (c.d.fact 37 (f := .meth (Str.ofString "Book") (Str.ofString "__len__")) rfl)) (fnIn_of F) rfl (F.bindsN fun _ _ _ _ _ _ us hl => match us, hl with | [_], _ => rfl) (fun j hj => ?_) rfl
  · match j, hj with
    | 0, hj => exact absurd (show (15 : Nat) = 16 from hj) (by decide)
    | _ + 1, hj => exact absurd (show (1000000 : Nat) = 16 from hj) (by decide)
theorem f17 (dd dl : Addr) : ∀ f, f < 18 → FnD (Rr K dd dl) (C0 K) Γ B0 P w K mg base 18 f := by
  obtain ⟨fd, F⟩ := c.d.def_ 18 (d := d17) rfl
  refine fns_succ (f16 c X G dd dl) ?_
  refine fnD_of F (fn_chk F sc17 (sy c X G dd dl) (f16 c X G dd dl) rfl c17 (by decide +kernel) fun ds Q x _ h => p17 h) (g17 c X G) rfl (F.bindsN fun _ _ _ _ _ _ us hl => match us, hl with | [_, _], _ => rfl) (fun j hj => ?_) rfl
  · match j, hj with
    | 0, hj => exact absurd (show (15 : Nat) = 17 from hj) (by decide)
    | _ + 1, hj => exact absurd (show (1000000 : Nat) = 17 from hj) (by decide)
theorem f18 (dd dl : Addr) : ∀ f, f < 19 → FnD (Rr K dd dl) (C0 K) Γ B0 P w K mg base 19 f := by
  obtain ⟨fd, F⟩ := c.d.def_ 19 (d := d18) rfl
  refine fns_succ (f17 c X G dd dl) ?_
  refine fnD_of F (fn_chk F sc18 (sy c X G dd dl) (f17 c X G dd dl) rfl c18 (by decide +kernel) fun ds Q x _ h => p18 h) (g18 c X G) rfl (F.bindsN fun _ _ _ _ _ _ us hl => match us, hl with | [_, _], _ => rfl) (fun j hj => ?_) rfl
  · match j, hj with
    | 0, hj => exact absurd (show (15 : Nat) = 18 from hj) (by decide)
    | _ + 1, hj => exact absurd (show (1000000 : Nat) = 18 from hj) (by decide)
theorem f19 (dd dl : Addr) : ∀ f, f < 20 → FnD (Rr K dd dl) (C0 K) Γ B0 P w K mg base 20 f := by
  obtain ⟨fd, F⟩ := c.d.def_ 20 (d := d19) rfl
  refine fns_succ (f18 c X G dd dl) ?_
  have hi := and2 (c.fx 11 (f := .xi (Str.ofString "BadWord")) rfl)
  have xf : XiF K mg (defScope (mtop 4 0)) (Str.ofString "FilterError") (He.ga K (Str.ofString "FilterError")) (He.ga K (Str.ofString "BadWord")) (.type "type") := ⟨by decide +kernel, gXFilterError c X G, (xbB_ok (c.fx 12 (f := .xb (Str.ofString "FilterError")) rfl)).1, (xbB_ok (c.fx 12 (f := .xb (Str.ofString "FilterError")) rfl)).2, (oexB_ok (c.fx 7 (f := .xc (Str.ofString "BadWord")) rfl)).1⟩
  have G1 := xi_fn1 (base := base) (P := P) (w := w) F sc19 rfl xf (He.eqO_ok (c.fx 8 (f := .xno (Str.ofString "BadWord") (Str.ofString "word")) rfl)) rfl rfl (by decide +kernel) (by decide +kernel) (by decide +kernel)
  exact fnX_of (c := 1) (Ca := He.ga K (Str.ofString "BadWord")) G1 rfl xf.T (He.eqO_ok hi.1) (of_decide_eq_true hi.2) rfl (F.bindsN fun _ _ _ _ _ _ us hl => match us, hl with | [_, _], _ => rfl) rfl
theorem f20 (dd dl : Addr) : ∀ f, f < 21 → FnD (Rr K dd dl) (C0 K) Γ B0 P w K mg base 21 f := by
  obtain ⟨fd, F⟩ := c.d.def_ 21 (d := d20) rfl
  refine fns_succ (f19 c X G dd dl) ?_
  refine fnN_of (init_chk F sc20 (sy c X G dd dl) (fun a => ⟨2 * a + 1, mkR_adr a⟩) (f19 c X G dd dl) rfl (List.take_append_drop 0 _).symm c20 t20 (by decide) (by decide) (by decide +kernel) fun ds Q x _ h => p20 h) (gC1 c X G) (He.mkr_ok (c.d.fact 38 (f := .mkr (Str.ofString "Filter")) rfl)) rfl (F.bindsN fun _ _ _ _ _ _ us hl => match us, hl with | [_, _, _], _ => rfl) (fun j hj => ?_) rfl
  · match j, hj with
    | 0, hj => exact absurd (show (15 : Nat) = 20 from hj) (by decide)
    | _ + 1, hj => exact absurd (show (1000000 : Nat) = 20 from hj) (by decide)
theorem f21 (dd dl : Addr) : ∀ f, f < 22 → FnD (Rr K dd dl) (C0 K) Γ B0 P w K mg base 22 f := by
  obtain ⟨fd, F⟩ := c.d.def_ 22 (d := d21) rfl
  refine fns_succ (f20 c X G dd dl) ?_
  refine fnM_of (c := 0) F (fn_chk F sc21 (sy c X G dd dl) (f20 c X G dd dl) rfl c21 (by decide +kernel) fun ds Q x _ h => p21 h) (He.meth_ok (c.d.fact 39 (f := .meth (Str.ofString "Book") (Str.ofString "__getitem__")) rfl)) (fnIn_of F) rfl (F.bindsN fun _ _ _ _ _ _ us hl => match us, hl with | [_, _], _ => rfl) (fun j hj => ?_) rfl
  · match j, hj with
    | 0, hj => exact absurd (show (15 : Nat) = 21 from hj) (by decide)
    | _ + 1, hj => exact absurd (show (1000000 : Nat) = 21 from hj) (by decide)
theorem f22 (dd dl : Addr) : ∀ f, f < 23 → FnD (Rr K dd dl) (C0 K) Γ B0 P w K mg base 23 f := by
  obtain ⟨fd, F⟩ := c.d.def_ 23 (d := d22) rfl
  refine fns_succ (f21 c X G dd dl) ?_
  refine fnM_of (c := 0) F (fn_chk F sc22 (sy c X G dd dl) (f21 c X G dd dl) rfl c22 (by decide +kernel) fun ds Q x _ h => p22 h) (He.meth_ok (c.d.fact 40 (f := .meth (Str.ofString "Book") (Str.ofString "__eq__")) rfl)) (fnIn_of F) rfl (F.bindsN fun _ _ _ _ _ _ us hl => match us, hl with | [_, _], _ => rfl) (fun j hj => ?_) rfl
  · match j, hj with
    | 0, hj => exact absurd (show (15 : Nat) = 22 from hj) (by decide)
    | _ + 1, hj => exact absurd (show (1000000 : Nat) = 22 from hj) (by decide)
theorem f23 (dd dl : Addr) : ∀ f, f < 24 → FnD (Rr K dd dl) (C0 K) Γ B0 P w K mg base 24 f := by
  obtain ⟨fd, F⟩ := c.d.def_ 24 (d := d23) rfl
  refine fns_succ (f22 c X G dd dl) ?_
  refine fnD_of F (fn_chk F sc23 (sy c X G dd dl) (f22 c X G dd dl) rfl c23 (by decide +kernel) fun ds Q x _ h => p23 h) (g23 c X G) rfl (F.bindsN fun _ _ _ _ _ _ us hl => match us, hl with | [_, _], _ => rfl) (fun j hj => ?_) rfl
  · match j, hj with
    | 0, hj => exact absurd (show (15 : Nat) = 23 from hj) (by decide)
    | _ + 1, hj => exact absurd (show (1000000 : Nat) = 23 from hj) (by decide)
theorem f24 (dd dl : Addr) : ∀ f, f < 25 → FnD (Rr K dd dl) (C0 K) Γ B0 P w K mg base 25 f := by
  obtain ⟨fd, F⟩ := c.d.def_ 25 (d := d24) rfl
  refine fns_succ (f23 c X G dd dl) ?_
  refine fnD_of F (fn_chk F sc24 (sy c X G dd dl) (f23 c X G dd dl) rfl c24 (by decide +kernel) fun ds Q x _ h => p24 h) (g24 c X G) rfl (F.bindsN fun _ _ _ _ _ _ us hl => match us, hl with | [_, _], _ => rfl) (fun j hj => ?_) rfl
  · match j, hj with
    | 0, hj => exact absurd (show (15 : Nat) = 24 from hj) (by decide)
    | _ + 1, hj => exact absurd (show (1000000 : Nat) = 24 from hj) (by decide)
theorem f25 (dd dl : Addr) : ∀ f, f < 26 → FnD (Rr K dd dl) (C0 K) Γ B0 P w K mg base 26 f := by
  obtain ⟨fd, F⟩ := c.d.def_ 26 (d := d25) rfl
  refine fns_succ (f24 c X G dd dl) ?_
  refine fnD_of F (fn_chk F sc25 (sy c X G dd dl) (f24 c X G dd dl) rfl c25 (by decide +kernel) fun ds Q x _ h => p25 h) (g25 c X G) rfl (F.bindsN fun _ _ _ _ _ _ us hl => match us, hl with | [_, _], _ => rfl) (fun j hj => ?_) rfl
  · match j, hj with
    | 0, hj => exact absurd (show (15 : Nat) = 25 from hj) (by decide)
    | _ + 1, hj => exact absurd (show (1000000 : Nat) = 25 from hj) (by decide)
theorem fD : ∃ fd, Binds K fd [(Str.ofString "script")] [] ∧ PySem.W.keepIn K (.ref (He.ga K "_law_deck")) = true ∧ FnA true P w K mg base (L2.CX P w) 1 (He.ga K "_law_deck") fd [(Str.ofString "script")] (spDeck K kd.dob) := by
  obtain ⟨fd, F⟩ := c.d.def_ 0 (d := dD) rfl
  refine ⟨fd, F.bindsN fun _ _ _ _ _ _ us hl => match us, hl with | [_], _ => rfl, F.kp, ?_⟩
  exact deckA (N := ND) (jb := 1) (jn := 2) F scD rfl (by decide +kernel) rfl rfl rfl (by decide) (by decide) (by decide) (by decide +kernel) (by decide +kernel) (by decide +kernel) (by decide +kernel) (by decide +kernel) (by decide +kernel) (by decide +kernel) (by decide +kernel) (by decide +kernel) (by decide +kernel) (by decide +kernel) (by decide +kernel) (by decide +kernel) (bl c X G)
theorem fL : ∃ fd : FuncData, (∀ (s : Shared) (v : Value), BindsTo s fd ⟨[v], []⟩ [((Str.ofString "script"), v)]) ∧ ∀ base : Heap, FnA true P w K mg base (L2.CX P w) 53 (He.ga K "law") fd [(Str.ofString "script")] (spLaw K) := by
  obtain ⟨fd, F⟩ := c.d.def_ 27 (d := dL) rfl
  have b := FunD.bindsA (ps := [(Str.ofString "script")]) F fun _ _ _ _ _ _ us hl => match us, hl with | [_], _ => rfl
  refine ⟨fd, fun s v => b s [v] rfl, fun base => ?_⟩
  obtain ⟨fdk, bk, kp, FK⟩ := fD (P := P) (w := w) (base := base) c X G
  exact law_fn (m := 26) (cls := cls0 K) (flds := flds0) (C := C0 K) (B := B0) (N := NL) (b := bL) (i := 1) F scL rfl (sy c X G) (f25 c X G) FK (by decide) (gD c X G) kp bk (by decide +kernel) rfl (by decide +kernel) (by decide +kernel) (by decide +kernel) rfl (by decide +kernel) cL (by decide +kernel) pL
end
end L_k04
open PySem PySem.W PySem.Calls PyProof.Rows
theorem PySem.Challenge.cw_sureatlast_k04_books_of_any_value_holds : PySem.Challenge.rw_sureatlast_k04_books_of_any_value.Holds := by
  w_on; o_law
  refine HandSHeadRun.head_any (r := OpenLaw.row PySem.Challenge.rw_sureatlast_k04_books_of_any_value) (q := view (OpenLaw.row PySem.Challenge.rw_sureatlast_k04_books_of_any_value).prog [66]) (H := L_k04.hk) (ob := L_k04.ob) (M := 8000) (loose := L_k04.nms) (d := HandSHeadRun.topDef (OpenLaw.row PySem.Challenge.rw_sureatlast_k04_books_of_any_value).prog 66) (kwd := []) L_k04.ob_eq
    (by kernel_rfl) (fun s => by kernel_rfl) L_k04.hrun (by kernel_rfl) (by kernel_rfl) (by kernel_rfl) (by rfl) (by first | assumption | decide +kernel) (by decide +kernel) ⟨rfl, rfl, rfl, rfl, rfl, by decide +kernel⟩ ?hw ?hc
  case hw => w_witness2
  case hc =>
    refine DL.walk_ofA (l := PySem.Challenge.rw_sureatlast_k04_books_of_any_value) (n := 63) (k := 53) (x := "script") (CX := fun w => L2.CX (PySem.Challenge.rw_sureatlast_k04_books_of_any_value).prog w) rfl (by decide) (by kernel_rfl) ⟨rfl, by decide, by decide⟩ ?F (fun _ _ _ _ _ ⟨_, _, _, _, _, _, _, _, _, _, _, _, z⟩ => z)
    intro w mg fa h Y G hmg0
    obtain ⟨K, KX, c⟩ := Y
    have hmg : mg ("law" : PySem.Str) = some (.ref fa) := by
      have e : (HandSHeadRun.topDef (OpenLaw.row PySem.Challenge.rw_sureatlast_k04_books_of_any_value).prog 66).name = ("law" : PySem.Str) := by kernel_rfl
      rw [← e]
      exact hmg0
    have e := hmg.symm.trans (L_k04.gL c KX G)
    cases e
    obtain ⟨fd, hb, hF⟩ := L_k04.fL (P := (PySem.Challenge.rw_sureatlast_k04_books_of_any_value).prog) (w := w) c KX G
    exact ⟨K, fd, DL.spLaw K, KX, hb, fun H a ns hl _ hS => ⟨a, ns, rfl, hS, hl, fun v _ z => z⟩, fun base _ _ => hF base⟩
