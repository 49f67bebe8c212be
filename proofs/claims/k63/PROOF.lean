import PyProof.Rows.All
import Wide.All
import OpenK.AllK
import Wide.FinOn
import HandS.ForMost
import HandS.Exc
import HandS.ExcOwn
import HandS.WordsExc
import HandS.CallSlots
import HandS.Lambda
import HandS.IsInst
import HandS.TupAny
import HandS.TupMul
import HandS.Deep
import HandS.Style
import HandS.RaiseMore
import HandS.DictTup
import HandS.TupSets
import HandS.Conv
import KE.KDictPairs
import KE.GoesNew
import KE.GoesZip
import KE.GoesMore
import PyProof.EnumMake
import KE.DataFind
import HandS.WordsDict
import HandS.TupLen
import HandS.Small
import PySem.Challenge.RW_signway_k63_whole_desks_beside_their_dee
set_option Elab.async false
set_option linter.all false
set_option maxRecDepth 100000
set_option maxHeartbeats 2000000
set_option autoImplicit false
/-! Data: a layer of plain functions over HandS. D are data without addresses, a store holds what changes; each rule says that a reading follows from a plain function's result. -/
namespace L3
open PySem PySem.Spec PyProof.Rows L2

inductive D where
  | non
  | bl (b : Bool)
  | int (i : Int)
  | str (cs : List Nat)
  | tup (xs : List D)
  | lst (xs : List D)
  | obj (k : Nat)
  | scr (ns : List Int)
  | glb (x : Str)
  | ty (n : String)
instance : Inhabited D := ⟨.non⟩
structure Exc where
  cls : Str
  fs : List (Str × D)
inductive MO where
  | dead
  | lst (xs : List D)
  | ins (c : Str) (fs : List (Str × D))
  | dK (kvs : List (Key × D))
  | dT (kvs : List (List Key × D))
abbrev Sto := List MO
inductive R (α : Type) where
  | ok (a : α) (S : Sto)
  | exc (e : Exc) (S : Sto)
  | bad
def R.bind {α β : Type} (r : R α) (f : α → Sto → R β) : R β :=
  match r with
  | .ok a S => f a S
  | .exc e S => .exc e S
  | .bad => .bad
@[simp] theorem bind_ok {α β : Type} (a : α) (S : Sto) (f : α → Sto → R β) : (R.ok a S).bind f = f a S := id rfl
@[simp] theorem bind_exc {α β : Type} (e : Exc) (S : Sto) (f : α → Sto → R β) : (R.exc e S : R α).bind f = .exc e S := id rfl
@[simp] theorem bind_bad {α β : Type} (f : α → Sto → R β) : (R.bad : R α).bind f = .bad := id rfl

/-- the ghost state: what never changes any more, where the changing objects stand, what is tracked -/
structure G where
  F : Hp
  A : List Addr
  H : Hp
structure Wd where
  K : PySem.W.Frag
  mg : Str → Option Value
  T : List (Addr × Str)

mutual
inductive Rep (w : Wd) (F : Hp) (A : List Addr) : D → V → Prop
  | non : Rep w F A .non .non
  | bl (b : Bool) : Rep w F A (.bl b) (.bl b)
  | int (i : Int) : Rep w F A (.int i) (.int i)
  | str (cs : List Nat) (x : Str) (h : x.cps.toList = cs) : Rep w F A (.str cs) (.str x)
  | tup (ds : List D) (a : Addr) (vs : List V) (h : F a = some (.tup vs)) (r : Reps w F A ds vs) : Rep w F A (.tup ds) (.ref a)
  | lst (ds : List D) (a : Addr) (vs : List V) (h : F a = some (.lst vs)) (r : Reps w F A ds vs) : Rep w F A (.lst ds) (.ref a)
  | obj (k : Nat) (a : Addr) (h : A[k]? = some a) : Rep w F A (.obj k) (.ref a)
  | scr (ns : List Int) (a : Addr) (h : SqL w.K F a (ns.map V.int)) : Rep w F A (.scr ns) (.ref a)
  | glb (x : Str) (a : Addr) (h : w.mg x = some (.ref a)) : Rep w F A (.glb x) (.ref a)
  | ty (n : String) : Rep w F A (.ty n) (.ty n)
inductive Reps (w : Wd) (F : Hp) (A : List Addr) : List D → List V → Prop
  | nil : Reps w F A [] []
  | cons (d : D) (v : V) (ds : List D) (vs : List V) (h : Rep w F A d v) (t : Reps w F A ds vs) : Reps w F A (d :: ds) (v :: vs)
end

section
variable {w : Wd} {F F' : Hp} {A A' : List Addr}
mutual
theorem Rep.mono (hF : ∀ a o, F a = some o → F' a = some o) (hA : ∃ m, A' = A ++ m) : ∀ {d : D} {v : V}, Rep w F A d v → Rep w F' A' d v
  | _, _, .non => .non
  | _, _, .bl b => .bl b
  | _, _, .int i => .int i
  | _, _, .str cs x h => .str cs x h
  | _, _, .tup ds a vs h r => .tup ds a vs (hF _ _ h) (Reps.mono hF hA r)
  | _, _, .lst ds a vs h r => .lst ds a vs (hF _ _ h) (Reps.mono hF hA r)
  | _, _, .obj k a h => .obj k a (by
      obtain ⟨m, rfl⟩ := hA
      rw [List.getElem?_append_left (List.getElem?_eq_some_iff.mp h).1]
      exact h)
  | _, _, .scr ns a h => .scr ns a (by
      rcases h with (h | ⟨o, h⟩) | h
      · exact .inl (.inl (hF _ _ h))
      · exact .inl (.inr ⟨o, hF _ _ h⟩)
      · exact .inr h)
  | _, _, .glb x a h => .glb x a h
  | _, _, .ty n => .ty n
theorem Reps.mono (hF : ∀ a o, F a = some o → F' a = some o) (hA : ∃ m, A' = A ++ m) : ∀ {ds : List D} {vs : List V}, Reps w F A ds vs → Reps w F' A' ds vs
  | _, _, .nil => .nil
  | _, _, .cons d v ds vs h t => .cons d v ds vs (Rep.mono hF hA h) (Reps.mono hF hA t)
end
theorem Reps.length : ∀ {ds : List D} {vs : List V}, Reps w F A ds vs → ds.length = vs.length
  | _, _, .nil => rfl
  | _, _, .cons d v ds vs h t => by simp [Reps.length t]
theorem Reps.append : ∀ {ds es : List D} {vs us : List V}, Reps w F A ds vs → Reps w F A es us → Reps w F A (ds ++ es) (vs ++ us)
  | _, _, _, _, .nil, r => r
  | _, _, _, _, .cons d v ds vs h t, r => .cons _ _ _ _ h (Reps.append t r)
theorem Reps.one {d : D} {v : V} (h : Rep w F A d v) : Reps w F A [d] [v] := .cons _ _ _ _ h .nil
theorem Reps.get : ∀ {ds : List D} {vs : List V} {i : Nat} {d : D}, Reps w F A ds vs → ds[i]? = some d → ∃ v, vs[i]? = some v ∧ Rep w F A d v
  | _, _, 0, _, .cons d v ds vs h t, e => by
    simp at e; subst e; exact ⟨v, rfl, h⟩
  | _, _, i + 1, d, .cons _ v ds vs h t, e => by
    obtain ⟨u, h1, h2⟩ := Reps.get (i := i) (d := d) t (by simpa using e)
    exact ⟨u, by simpa using h1, h2⟩
theorem Reps.getV {ds : List D} {vs : List V} {i : Nat} {v : V} (r : Reps w F A ds vs) (e : vs[i]? = some v) : ∃ d, ds[i]? = some d ∧ Rep w F A d v := by
  have hi : i < ds.length := by rw [r.length]; exact (List.getElem?_eq_some_iff.mp e).1
  obtain ⟨v', h1, h2⟩ := r.get (List.getElem?_eq_getElem hi)
  rw [e] at h1; cases h1
  exact ⟨_, List.getElem?_eq_getElem hi, h2⟩
theorem Reps.take : ∀ {ds : List D} {vs : List V} (n : Nat), Reps w F A ds vs → Reps w F A (ds.take n) (vs.take n)
  | _, _, 0, _ => .nil
  | _, _, _ + 1, .nil => .nil
  | _, _, n + 1, .cons d v ds vs h t => .cons _ _ _ _ h (Reps.take n t)
theorem Reps.drop : ∀ {ds : List D} {vs : List V} (n : Nat), Reps w F A ds vs → Reps w F A (ds.drop n) (vs.drop n)
  | _, _, 0, r => r
  | _, _, _ + 1, .nil => .nil
  | _, _, n + 1, .cons d v ds vs h t => Reps.drop n t
theorem Reps.set {d : D} {v : V} (h' : Rep w F A d v) : ∀ {ds : List D} {vs : List V} (i : Nat), Reps w F A ds vs → Reps w F A (ds.set i d) (vs.set i v)
  | _, _, _, .nil => .nil
  | _, _, 0, .cons _ _ _ _ h t => .cons _ _ _ _ h' t
  | _, _, i + 1, .cons _ _ _ _ h t => .cons _ _ _ _ h (Reps.set h' i t)
theorem Reps.erase : ∀ {ds : List D} {vs : List V} (i : Nat), Reps w F A ds vs → Reps w F A (ds.eraseIdx i) (vs.eraseIdx i)
  | _, _, _, .nil => .nil
  | _, _, 0, .cons _ _ _ _ h t => t
  | _, _, i + 1, .cons _ _ _ _ h t => .cons _ _ _ _ h (Reps.erase i t)
theorem Reps.reverse : ∀ {ds : List D} {vs : List V}, Reps w F A ds vs → Reps w F A ds.reverse vs.reverse
  | _, _, .nil => .nil
  | _, _, .cons d v ds vs h t => by
    rw [List.reverse_cons, List.reverse_cons]
    exact (Reps.reverse t).append (.one h)
theorem Reps.ints : ∀ {ns : List Int} {vs : List V}, Reps w F A (ns.map D.int) vs → vs = ns.map V.int
  | [], _, .nil => rfl
  | n :: ns, _, .cons _ _ _ _ h t => by
    cases h
    rw [Reps.ints t]; rfl
theorem Reps.bools : ∀ {ns : List Bool} {vs : List V}, Reps w F A (ns.map D.bl) vs → vs = ns.map V.bl
  | [], _, .nil => rfl
  | n :: ns, _, .cons _ _ _ _ h t => by
    cases h
    rw [Reps.bools t]; rfl
theorem Reps.ofInts : ∀ (ns : List Int), Reps w F A (ns.map D.int) (ns.map V.int)
  | [] => .nil
  | n :: ns => .cons _ _ _ _ (.int n) (Reps.ofInts ns)
theorem Reps.ofBools : ∀ (ns : List Bool), Reps w F A (ns.map D.bl) (ns.map V.bl)
  | [] => .nil
  | n :: ns => .cons _ _ _ _ (.bl n) (Reps.ofBools ns)
end

def MRep (w : Wd) (g : G) (a : Addr) : MO → Prop
  | .dead => True
  | .lst ds => ∃ vs, g.H a = some (.lst vs) ∧ Reps w g.F g.A ds vs
  | .ins c fs => ∃ C dx vs, w.mg c = some (.ref C) ∧ g.H a = some (.ins C dx ((fs.map (·.1)).zip vs)) ∧ Reps w g.F g.A (fs.map (·.2)) vs
  | .dK kvs => ∃ vs, g.H a = some (.dK ((kvs.map (·.1)).zip vs)) ∧ Reps w g.F g.A (kvs.map (·.2)) vs
  | .dT kvs => ∃ vs, g.H a = some (.dT ((kvs.map (·.1)).zip vs)) ∧ Reps w g.F g.A (kvs.map (·.2)) vs

structure Ok (w : Wd) (g : G) (S : Sto) : Prop where
  sub : ∀ a o, g.F a = some o → g.H a = some o
  len : g.A.length = S.length
  nd : g.A.Nodup
  on : ∀ a, a ∈ g.A → g.H a ≠ none
  mo : ∀ (k : Nat) (a : Addr) (m : MO), g.A[k]? = some a → S[k]? = some m → MRep w g a m
  fr : ∀ (k : Nat) (a : Addr) (m : MO), g.A[k]? = some a → S[k]? = some m → m ≠ .dead → g.F a = none
  tab : LamX.Tabs w.T g.H

structure Ext (g g' : G) : Prop where
  fr : ∀ a o, g.F a = some o → g'.F a = some o
  ad : ∃ m, g'.A = g.A ++ m
  kp : ∀ a o, g.H a = some o → a ∉ g.A → (∀ ps, o ≠ .tbl ps) → g'.H a = some o
  al : ∀ a, g.H a ≠ none → g'.H a ≠ none
  nw : ∀ a, a ∈ g'.A → a ∉ g.A → g.H a = none
  fz : ∀ a, g'.F a ≠ none → g.F a = none → g.H a = none ∨ a ∈ g.A ∨ ∀ xs, g.H a ≠ some (.lst xs)
structure WExt (g g' : G) : Prop where
  fr : ∀ a o, g.F a = some o → g'.F a = some o
  ad : ∃ m, g'.A = g.A ++ m
theorem WExt.refl (g : G) : WExt g g := ⟨fun _ _ h => h, ⟨[], by simp⟩⟩
theorem WExt.trans {g g1 g2 : G} (a : WExt g g1) (b : WExt g1 g2) : WExt g g2 := ⟨fun x o h => b.fr x o (a.fr x o h), by
    obtain ⟨m, e⟩ := a.ad
    obtain ⟨n, e'⟩ := b.ad
    exact ⟨m ++ n, by rw [e', e, List.append_assoc]⟩⟩
theorem Ext.we {g g' : G} (e : Ext g g') : WExt g g' := ⟨e.fr, e.ad⟩
theorem Ext.refl (g : G) : Ext g g := ⟨fun _ _ h => h, ⟨[], by simp⟩, fun _ _ h _ _ => h, fun _ h => h, fun _ h n => absurd h n, fun _ h n => absurd n h⟩
theorem Ext.trans {g g1 g2 : G} (a : Ext g g1) (b : Ext g1 g2) : Ext g g2 where
  fr := fun x o h => b.fr x o (a.fr x o h)
  ad := by
    obtain ⟨m, e⟩ := a.ad
    obtain ⟨n, e'⟩ := b.ad
    exact ⟨m ++ n, by rw [e', e, List.append_assoc]⟩
  kp := fun x o h n t => b.kp x o (a.kp x o h n t) (fun z => by
    have q := a.nw x z n
    rw [h] at q; cases q) t
  al := fun x h => b.al x (a.al x h)
  nw := fun x h n => by
    by_cases h1 : x ∈ g1.A
    · exact a.nw x h1 n
    · have q := b.nw x h h1
      cases e : g.H x with
      | none => rfl
      | some o => exact absurd q (a.al x (by rw [e]; exact fun z => nomatch z))
  fz := fun x h n => by
    have back : g1.H x = none → g.H x = none := fun q => by
      cases e : g.H x with
      | none => rfl
      | some o => exact absurd q (a.al x (by rw [e]; exact fun z => nomatch z))
    by_cases h1 : g1.F x = none
    · by_cases hA : x ∈ g.A
      · exact .inr (.inl hA)
      · rcases b.fz x h h1 with q | q | q
        · exact .inl (back q)
        · exact .inl (a.nw x q hA)
        · exact .inr (.inr fun xs e => q xs (a.kp x _ e hA (fun _ z => by cases z)))
    · exact a.fz x h1 n
theorem Rep.ext {w : Wd} {g g' : G} (e : Ext g g') {d : D} {v : V} (h : Rep w g.F g.A d v) : Rep w g'.F g'.A d v := h.mono e.fr e.ad
theorem Reps.ext {w : Wd} {g g' : G} (e : Ext g g') {ds : List D} {vs : List V} (h : Reps w g.F g.A ds vs) : Reps w g'.F g'.A ds vs := h.mono e.fr e.ad

abbrev EnvD := List (Option D)
structure SRep (w : Wd) (g : G) (δ : EnvD) (σ : L2.St) : Prop where
  len : δ.length = σ.length
  at_ : ∀ (i : Nat) (d : D), δ[i]? = some (some d) → ∃ v, σ[i]? = some (some v) ∧ Rep w g.F g.A d v
theorem SRep.ext {w : Wd} {g g' : G} (e : Ext g g') {δ : EnvD} {σ : L2.St} (h : SRep w g δ σ) : SRep w g' δ σ := ⟨h.len, fun i d q => by
  obtain ⟨v, h1, h2⟩ := h.at_ i d q
  exact ⟨v, h1, h2.ext e⟩⟩
theorem SRep.we {w : Wd} {g g' : G} (e : WExt g g') {δ : EnvD} {σ : L2.St} (h : SRep w g δ σ) : SRep w g' δ σ := ⟨h.len, fun i d q => by
  obtain ⟨v, h1, h2⟩ := h.at_ i d q
  exact ⟨v, h1, h2.mono e.fr e.ad⟩⟩
theorem SRep.set {w : Wd} {g : G} {δ : EnvD} {σ : L2.St} (h : SRep w g δ σ) {d : D} {v : V} (r : Rep w g.F g.A d v) (i : Nat) : SRep w g (δ.set i (some d)) (σ.set i (some v)) := by
  refine ⟨by simp [h.len], fun j e q => ?_⟩
  by_cases hj : i = j
  · subst hj
    by_cases hl : i < δ.length
    · rw [List.getElem?_set_self hl] at q
      cases q
      exact ⟨v, List.getElem?_set_self (by rw [← h.len]; exact hl), r⟩
    · rw [List.getElem?_eq_none (by simp; omega)] at q
      cases q
  · rw [List.getElem?_set_ne hj] at q
    obtain ⟨u, h1, h2⟩ := h.at_ j e q
    exact ⟨u, by rw [List.getElem?_set_ne hj]; exact h1, h2⟩
theorem SRep.forget {w : Wd} {g : G} {δ : EnvD} {σ : L2.St} (h : SRep w g δ σ) {x : Option V} (i : Nat) : SRep w g (δ.set i none) (σ.set i x) := by
  refine ⟨by simp [h.len], fun j e q => ?_⟩
  by_cases hj : i = j
  · subst hj
    by_cases hl : i < δ.length
    · rw [List.getElem?_set_self hl] at q
      cases q
    · rw [List.getElem?_eq_none (by simp; omega)] at q
      cases q
  · rw [List.getElem?_set_ne hj] at q
    obtain ⟨u, h1, h2⟩ := h.at_ j e q
    exact ⟨u, by rw [List.getElem?_set_ne hj]; exact h1, h2⟩

/-! ### steps of the ghost state -/
section
variable {w : Wd} {g : G} {S : Sto} {p a : Addr} {o : HO}
theorem Ok.noF (h : Ok w g S) (hp : g.H p = none) : g.F p = none := by
  cases e : g.F p with
  | none => rfl
  | some o => rw [h.sub p o e] at hp; cases hp
theorem Ok.noA (h : Ok w g S) (hp : g.H p = none) : p ∉ g.A := fun z => h.on p z hp
/-- a new object that never changes -/
def G.frz (g : G) (p : Addr) (o : HO) : G := ⟨upd g.F p o, g.A, upd g.H p o⟩
/-- a new object that is dropped -/
def G.tmp (g : G) (p : Addr) (o : HO) : G := ⟨g.F, g.A, upd g.H p o⟩
/-- a new object that may change -/
def G.new (g : G) (p : Addr) (o : HO) : G := ⟨g.F, g.A ++ [p], upd g.H p o⟩
theorem upd_kp {H : Hp} (hp : H p = none) : ∀ b u, H b = some u → upd H p o b = some u := fun b u h => by
  rw [upd_ne (ne_of_none h hp)]; exact h
theorem upd_al {H : Hp} : ∀ b, H b ≠ none → upd H p o b ≠ none := fun b h => by
  unfold upd
  split
  · exact fun z => nomatch z
  · exact h
theorem Ext.tmp (hp : g.H p = none) : Ext g (g.tmp p o) := ⟨fun _ _ h => h, ⟨[], by simp [G.tmp]⟩, fun b u h _ _ => upd_kp hp b u h, fun b h => upd_al b h, fun _ h n => absurd h n, fun _ h n => absurd n h⟩
theorem Ext.frz (k : Ok w g S) (hp : g.H p = none) : Ext g (g.frz p o) := ⟨fun b u h => upd_kp (k.noF hp) b u h, ⟨[], by simp [G.frz]⟩, fun b u h _ _ => upd_kp hp b u h, fun b h => upd_al b h, fun _ h n => absurd h n, fun b h n => by
  by_cases e : b = p
  · subst e; exact .inl hp
  · have q : upd g.F p o b ≠ none := h
    rw [upd_ne e] at q
    exact absurd n q⟩
theorem Ext.new (hp : g.H p = none) : Ext g (g.new p o) := ⟨fun _ _ h => h, ⟨[p], rfl⟩, fun b u h _ _ => upd_kp hp b u h, fun b h => upd_al b h, fun b h n => by
  rcases List.mem_append.mp h with z | z
  · exact absurd z n
  · rw [List.mem_singleton.mp z]; exact hp, fun _ h n => absurd n h⟩
theorem MRep.ext {g g' : G} {m : MO} (e : Ext g g') (hH : ∀ o, g.H a = some o → g'.H a = some o) (h : MRep w g a m) : MRep w g' a m := by
  cases m with
  | dead => trivial
  | lst ds => obtain ⟨vs, h1, h2⟩ := h; exact ⟨vs, hH _ h1, h2.ext e⟩
  | ins c fs => obtain ⟨C, dx, vs, h0, h1, h2⟩ := h; exact ⟨C, dx, vs, h0, hH _ h1, h2.ext e⟩
  | dK kvs => obtain ⟨vs, h1, h2⟩ := h; exact ⟨vs, hH _ h1, h2.ext e⟩
  | dT kvs => obtain ⟨vs, h1, h2⟩ := h; exact ⟨vs, hH _ h1, h2.ext e⟩
theorem Ok.tmp (h : Ok w g S) (hp : g.H p = none) : Ok w (g.tmp p o) S where
  sub := fun a o h' => upd_kp hp a o (h.sub a o h')
  len := h.len
  nd := h.nd
  on := fun a z => upd_al a (h.on a z)
  mo := fun k a m h1 h2 => (h.mo k a m h1 h2).ext (Ext.tmp hp) fun o h' => upd_kp hp a o h'
  fr := h.fr
  tab := h.tab.ext (upd_kp hp)
theorem Ok.frz (h : Ok w g S) (hp : g.H p = none) : Ok w (g.frz p o) S where
  sub := fun a u h' => by
    by_cases e : a = p
    · subst e
      have q : upd g.F a o a = some u := h'
      rw [upd_same] at q
      exact q ▸ upd_same
    · have q : upd g.F p o a = some u := h'
      rw [upd_ne e] at q
      exact upd_kp hp a u (h.sub a u q)
  len := h.len
  nd := h.nd
  on := fun a z => upd_al a (h.on a z)
  mo := fun k a m h1 h2 => (h.mo k a m h1 h2).ext (Ext.frz h hp) fun o h' => upd_kp hp a o h'
  fr := fun k a m h1 h2 h3 => by
    have e : a ≠ p := fun z => h.noA hp (z ▸ List.mem_of_getElem? h1)
    show upd g.F p o a = none
    rw [upd_ne e]
    exact h.fr k a m h1 h2 h3
  tab := h.tab.ext (upd_kp hp)
theorem get_snoc {α : Type} {l : List α} {x y : α} {k : Nat} (h : (l ++ [x])[k]? = some y) : l[k]? = some y ∨ (k = l.length ∧ y = x) := by
  by_cases hk : k < l.length
  · rw [List.getElem?_append_left hk] at h
    exact .inl h
  · rw [List.getElem?_append_right (by omega)] at h
    have : k - l.length = 0 := by
      cases e : k - l.length with
      | zero => rfl
      | succ n => rw [e] at h; simp at h
    rw [this] at h
    refine .inr ⟨by omega, ?_⟩
    simp at h
    exact h.symm
theorem Ok.new (h : Ok w g S) (hp : g.H p = none) {m : MO} (hm : MRep w (g.new p o) p m) : Ok w (g.new p o) (S ++ [m]) where
  sub := fun a o h' => upd_kp hp a o (h.sub a o h')
  len := by simp [G.new, h.len]
  nd := by
    show (g.A ++ [p]).Nodup
    rw [List.nodup_append]
    refine ⟨h.nd, by simp, fun a ha b hb e => ?_⟩
    rw [List.mem_singleton.mp hb] at e
    exact h.noA hp (e ▸ ha)
  on := fun a z => by
    rcases List.mem_append.mp z with z | z
    · exact upd_al a (h.on a z)
    · rw [List.mem_singleton.mp z]
      show upd g.H p o p ≠ none
      rw [upd_same]
      exact fun z => nomatch z
  mo := fun k a m' h1 h2 => by
    rcases get_snoc h1 with h1 | ⟨k1, e1⟩
    · rcases get_snoc h2 with h2 | ⟨k2, e2⟩
      · exact (h.mo k a m' h1 h2).ext (Ext.new hp) fun o h' => upd_kp hp a o h'
      · have := (List.getElem?_eq_some_iff.mp h1).1
        have := h.len
        omega
    · rcases get_snoc h2 with h2 | ⟨k2, e2⟩
      · have := (List.getElem?_eq_some_iff.mp h2).1
        have := h.len
        omega
      · subst e1 e2
        exact hm
  fr := fun k a m' h1 h2 h3 => by
    rcases get_snoc h1 with h1 | ⟨k1, e1⟩
    · rcases get_snoc h2 with h2 | ⟨k2, e2⟩
      · exact h.fr k a m' h1 h2 h3
      · have := (List.getElem?_eq_some_iff.mp h1).1
        have := h.len
        omega
    · subst e1
      exact h.noF hp
  tab := h.tab.ext (upd_kp hp)
theorem nodup_at {α : Type} {l : List α} (h : l.Nodup) {i j : Nat} {x : α} (h1 : l[i]? = some x) (h2 : l[j]? = some x) : i = j := by
  obtain ⟨hi, e1⟩ := List.getElem?_eq_some_iff.mp h1
  obtain ⟨hj, e2⟩ := List.getElem?_eq_some_iff.mp h2
  rw [List.nodup_iff_pairwise_ne] at h
  rcases Nat.lt_trichotomy i j with q | q | q
  · exact absurd (e1.trans e2.symm) (List.pairwise_iff_getElem.mp h i j hi hj q)
  · exact q
  · exact absurd (e2.trans e1.symm) (List.pairwise_iff_getElem.mp h j i hj hi q)
/-- the k-th object is written -/
theorem Ext.write (ha : a ∈ g.A) : Ext g ⟨g.F, g.A, upd g.H a o⟩ := ⟨fun _ _ h => h, ⟨[], by simp⟩, fun b u h n _ => by
    show upd g.H a o b = some u
    rw [upd_ne (show b ≠ a from fun e => n (e ▸ ha))]
    exact h, fun b h => upd_al b h, fun _ h n => absurd h n, fun _ h n => absurd n h⟩
theorem Ok.write (h : Ok w g S) {k : Nat} {m m' : MO} (hk : g.A[k]? = some a) (hm : S[k]? = some m) (hl : m ≠ .dead) (ht : ∀ ps, g.H a ≠ some (.tbl ps)) (hc : ∀ q c, g.H a ≠ some (LamX.CodeO c q)) (hm' : MRep w ⟨g.F, g.A, upd g.H a o⟩ a m') : Ok w ⟨g.F, g.A, upd g.H a o⟩ (S.set k m') where
  sub := fun b u h' => by
    have e : b ≠ a := fun z => by
      have q := h.fr k a m hk hm hl
      have h'' : g.F b = some u := h'
      rw [z, q] at h''; cases h''
    show upd g.H a o b = some u
    rw [upd_ne e]
    exact h.sub b u h'
  len := by simp [h.len]
  nd := h.nd
  on := fun b z => upd_al b (h.on b z)
  mo := fun j b n h1 h2 => by
    by_cases hj : k = j
    · subst hj
      have : b = a := Option.some.inj (h1.symm.trans hk)
      subst this
      have hlt : k < S.length := (List.getElem?_eq_some_iff.mp hm).1
      rw [List.getElem?_set_self hlt] at h2
      cases h2
      exact hm'
    · rw [List.getElem?_set_ne hj] at h2
      refine (h.mo j b n h1 h2).ext (Ext.write (List.mem_of_getElem? hk)) fun u h' => ?_
      have e : b ≠ a := fun z => hj (nodup_at h.nd hk (z ▸ h1))
      show upd g.H a o b = some u
      rw [upd_ne e]
      exact h'
  fr := fun j b n h1 h2 h3 => by
    by_cases hj : k = j
    · subst hj
      have : b = a := Option.some.inj (h1.symm.trans hk)
      subst this
      exact h.fr k b m hk hm hl
    · rw [List.getElem?_set_ne hj] at h2
      exact h.fr j b n h1 h2 h3
  tab := fun p hp => by
    obtain ⟨ps, e1, e2, e3⟩ := h.tab p hp
    have np : p.1 ≠ a := fun z => ht ps (z ▸ e1)
    refine ⟨ps, by show upd g.H a o p.1 = _; rw [upd_ne np]; exact e1, e2, fun pos cv hcv => ?_⟩
    obtain ⟨c, q1, q2⟩ := e3 pos cv hcv
    refine ⟨c, q1, ?_⟩
    have nc : c ≠ a := fun z => hc p.2 c (z ▸ q2)
    show upd g.H a o c = _
    rw [upd_ne nc]
    exact q2
/-- the k-th object, a list, changes no more -/
theorem Ext.still (h : Ok w g S) {k : Nat} {m : MO} {vs : List V} (hk : g.A[k]? = some a) (hm : S[k]? = some m) (hl : m ≠ .dead) : Ext g ⟨upd g.F a o, g.A, g.H⟩ :=
  ⟨fun b u h' => upd_kp (h.fr k a m hk hm hl) b u h', ⟨[], by simp⟩, fun _ _ h _ _ => h, fun _ h => h, fun _ h n => absurd h n, fun b h n => by
    by_cases e : b = a
    · subst e; exact .inr (.inl (List.mem_of_getElem? hk))
    · have q : upd g.F a o b ≠ none := h
      rw [upd_ne e] at q
      exact absurd n q⟩
theorem Ok.still (h : Ok w g S) {k : Nat} {m : MO} (hk : g.A[k]? = some a) (hm : S[k]? = some m) (hl : m ≠ .dead) (hH : g.H a = some o) : Ok w ⟨upd g.F a o, g.A, g.H⟩ (S.set k .dead) where
  sub := fun b u h' => by
    by_cases e : b = a
    · subst e
      have q : upd g.F b o b = some u := h'
      rw [upd_same] at q
      cases q
      exact hH
    · have q : upd g.F a o b = some u := h'
      rw [upd_ne e] at q
      exact h.sub b u q
  len := by simp [h.len]
  nd := h.nd
  on := h.on
  mo := fun j b n h1 h2 => by
    by_cases hj : k = j
    · subst hj
      have hlt : k < S.length := (List.getElem?_eq_some_iff.mp hm).1
      rw [List.getElem?_set_self hlt] at h2
      cases h2
      trivial
    · rw [List.getElem?_set_ne hj] at h2
      exact (h.mo j b n h1 h2).ext (Ext.still (vs := []) h hk hm hl) fun u h' => h'
  fr := fun j b n h1 h2 h3 => by
    by_cases hj : k = j
    · subst hj
      have hlt : k < S.length := (List.getElem?_eq_some_iff.mp hm).1
      rw [List.getElem?_set_self hlt] at h2
      cases h2
      exact absurd rfl h3
    · rw [List.getElem?_set_ne hj] at h2
      have e : b ≠ a := fun z => hj (nodup_at h.nd hk (z ▸ h1))
      show upd g.F a o b = none
      rw [upd_ne e]
      exact h.fr j b n h1 h2 h3
  tab := h.tab
end
end L3
set_option Elab.async false
set_option linter.all false
set_option maxRecDepth 100000
set_option maxHeartbeats 2000000
set_option autoImplicit false
namespace L3
open PySem PySem.Spec PyProof.Rows L2

abbrev wd (X : Cx) (T : List (Addr × Str)) : Wd := ⟨X.K, X.mg, T⟩
def XRep (w : Wd) (g : G) (e : Exc) (cls : Value) (dd : Option Addr) : Prop :=
  ∃ C, w.mg e.cls = some (.ref C) ∧ cls = .ref C ∧ ((e.fs = [] ∧ dd = none) ∨ (e.fs ≠ [] ∧ ∃ d vs, dd = some d ∧ g.F d = some (.xd ((e.fs.map (·.1)).zip vs)) ∧ Reps w g.F g.A (e.fs.map (·.2)) vs))
def Post {α : Type} (w : Wd) (W : WX) (σ : L2.St) (g : G) (r : R α) (k : α → Sto → G → Prop) : Prop :=
  match r with
  | .ok a S' => ∀ g', Ext g g' → Ok w g' S' → k a S' g'
  | .exc e S' => ∀ g' cls dd, Ext g g' → Ok w g' S' → XRep w g' e cls dd → W cls dd σ g'.H
  | .bad => False
section
variable {α β : Type} {w : Wd} {W : WX} {σ : L2.St} {g g1 : G} {r : R α} {k k' : α → Sto → G → Prop}
theorem Post.step (e : Ext g g1) (h : Post w W σ g r k) : Post w W σ g1 r k := by
  cases r with
  | ok a S => exact fun g' e' o => h g' (e.trans e') o
  | exc x S => exact fun g' c d e' o q => h g' c d (e.trans e') o q
  | bad => exact h
theorem Post.imp (h : Post w W σ g r k) (i : ∀ a S' g', Ext g g' → Ok w g' S' → k a S' g' → k' a S' g') : Post w W σ g r k' := by
  cases r with
  | ok a S => exact fun g' e o => i a S g' e o (h g' e o)
  | exc x S => exact h
  | bad => exact h
theorem Post.all (h : Post w W σ g r k) : Post w W σ g r (fun a S' g' => ∀ g2, Ext g' g2 → Ok w g2 S' → k a S' g2) := by
  cases r with
  | ok a S => exact fun g' e o g2 e2 o2 => h g2 (e.trans e2) o2
  | exc x S => exact h
  | bad => exact h
theorem Post.bind {f : α → Sto → R β} {k : β → Sto → G → Prop} (h : Post w W σ g (r.bind f) k) : Post w W σ g r (fun a S' g' => Post w W σ g' (f a S') k) := by
  cases r with
  | ok a S => exact fun g' e o => Post.step e h
  | exc x S => exact h
  | bad => exact h
theorem Post.bindB {f : α → Sto → R β} {k : β → Sto → G → Prop} (h : Post w W σ g (r.bind f) k) : Post w W σ g r (fun a S' _ => Post w W σ g (f a S') k) := by
  cases r with
  | ok a S => exact fun _ _ _ => h
  | exc x S => exact h
  | bad => exact h
theorem Post.here {a : α} {S : Sto} (h : Post w W σ g (.ok a S) k) (o : Ok w g S) : k a S g := h g (Ext.refl g) o
end

/-! ### the judgements -/
abbrev EM := EnvD → Sto → R D
abbrev TM := EnvD → Sto → R Bool
abbrev AM := EnvD → Sto → R (List D)
structure PD (X : Cx) (T : List (Addr × Str)) (W : WX) (e : Expr) (f : EM) : Prop where
  ex : ∃ t : TE, PE X e t ∧ ∀ (g : G) (S : Sto) (σ : L2.St) (δ : EnvD) (Q : VK), Ok (wd X T) g S → SRep (wd X T) g δ σ →
    Post (wd X T) W σ g (f δ S) (fun d _ g' => ∀ v, Rep (wd X T) g'.F g'.A d v → Q v g'.H) → t σ g.H Q
structure PTD (X : Cx) (T : List (Addr × Str)) (W : WX) (e : Expr) (f : TM) : Prop where
  ex : ∃ t : TT, PT X e t ∧ ∀ (g : G) (S : Sto) (σ : L2.St) (δ : EnvD) (Q : Bool → Hp → Prop), Ok (wd X T) g S → SRep (wd X T) g δ σ →
    Post (wd X T) W σ g (f δ S) (fun b _ g' => Q b g'.H) → t σ g.H Q
structure PWD (X : Cx) (T : List (Addr × Str)) (W : WX) (e : Expr) (f : TM) : Prop where
  ex : ∃ t : TT, PW X e t ∧ ∀ (g : G) (S : Sto) (σ : L2.St) (δ : EnvD) (Q : Bool → Hp → Prop), Ok (wd X T) g S → SRep (wd X T) g δ σ →
    Post (wd X T) W σ g (f δ S) (fun b _ g' => Q b g'.H) → t σ g.H Q
structure PAD (X : Cx) (T : List (Addr × Str)) (W : WX) (es : List Expr) (f : AM) : Prop where
  ex : ∃ t : TA, PA X es t ∧ ∀ (g : G) (S : Sto) (σ : L2.St) (δ : EnvD) (Q : List V → Hp → Prop), Ok (wd X T) g S → SRep (wd X T) g δ σ →
    Post (wd X T) W σ g (f δ S) (fun ds _ g' => ∀ vs, Reps (wd X T) g'.F g'.A ds vs → Q vs g'.H) → t σ g.H Q
/-- a list that is new, whose items are told -/
structure PLD (X : Cx) (T : List (Addr × Str)) (W : WX) (e : Expr) (f : AM) : Prop where
  ex : ∃ t : TE, PE X e t ∧ ∀ (g : G) (S : Sto) (σ : L2.St) (δ : EnvD) (Q : VK), Ok (wd X T) g S → SRep (wd X T) g δ σ →
    Post (wd X T) W σ g (f δ S) (fun ds _ g' => ∀ p vs, g.H p = none → g'.H p = some (.lst vs) → p ∉ g'.A → g'.F p = none → Reps (wd X T) g'.F g'.A ds vs → Q (.ref p) g'.H) → t σ g.H Q

section
variable {X : Cx} {T : List (Addr × Str)} {W : WX} {a b c e : Expr} {es rest : List Expr} {pos : Pos}

/-! ### names, constants -/
def varE (i : Nat) : EM := fun δ S => match δ[i]? with
  | some (some d) => .ok d S
  | _ => .bad
def conE (d : D) : EM := fun _ S => .ok d S
theorem pd_of {t : TE} {f : EM} (h : PE X e t) (q : ∀ (g : G) (S : Sto) (σ : L2.St) (δ : EnvD) (Q : VK), Ok (wd X T) g S → SRep (wd X T) g δ σ →
    Post (wd X T) W σ g (f δ S) (fun d _ g' => ∀ v, Rep (wd X T) g'.F g'.A d v → Q v g'.H) → t σ g.H Q) : PD X T W e f := ⟨t, h, q⟩
theorem pd_var (i : Nat) {x : Str} {pos : Pos} (hN : X.N[i]? = some x := by rfl) (hv : Vis X.env.scope x := by first | exact Or.inl rfl | exact Or.inr (Or.inl rfl) | exact Or.inr (Or.inr rfl))
    (hd : (x == ("__debug__" : Str)) = false := by decide) (hcd : (x == ("__classdict__" : Str)) = false := by decide) : PD X T W (.Name x pos) (varE i) := by
  refine pd_of (pe_var (i := i) hN hv hd hcd) fun g S σ δ Q o s h => ?_
  unfold varE at h
  split at h
  · rename_i d hd
    obtain ⟨v, h1, h2⟩ := s.at_ i d hd
    exact ⟨v, h1, h.here o v h2⟩
  · exact h.elim
theorem pd_con {v : V} {d : D} (h : PE X e (tC v)) (r : ∀ F A, Rep (wd X T) F A d v) : PD X T W e (conE d) :=
  pd_of h fun g S σ δ Q o s q => q.here o v (r _ _)
theorem pd_int {i : Int} {j : Nat} : PD X T W (.Constant (.int i) j pos) (conE (.int i)) := pd_con pe_int fun _ _ => .int i
theorem pd_bl {i : Bool} {j : Nat} : PD X T W (.Constant (.bool i) j pos) (conE (.bl i)) := pd_con pe_bl fun _ _ => .bl i
theorem pd_non {j : Nat} : PD X T W (.Constant .none j pos) (conE .non) := pd_con pe_non fun _ _ => .non
theorem pd_str (cs : List Nat) {x : Str} {j : Nat} (h : x.cps.toList = cs := by first | rfl | decide +kernel) : PD X T W (.Constant (.str x) j pos) (conE (.str cs)) := pd_con pe_str fun _ _ => .str cs x h
/-- a class, a def of the module, as a value -/
theorem pd_glob {x : Str} {u : Addr} (hm : X.mg x = some (.ref u)) (hg : Gl X x := by rfl) (hd : (x == ("__debug__" : Str)) = false := by decide) : PD X T W (.Name x pos) (conE (.glb x)) :=
  pd_con (pe_glob hg hm (show RelV (.ref u) (.ref u) from rfl) hd) fun _ _ => .glb x u hm
/-- a number of the module -/
theorem pd_gint {x : Str} {i : Int} {t : Tok} (hm : X.mg x = some (.int i t)) (hg : Gl X x := by rfl) (hd : (x == ("__debug__" : Str)) = false := by decide) : PD X T W (.Name x pos) (conE (.int i)) :=
  pd_con (pe_glob hg hm (show RelV (.int i) (.int i t) from ⟨t, rfl⟩) hd) fun _ _ => .int i
theorem pd_gstr {x y : Str} {t : Tok} (cs : List Nat) (hm : X.mg x = some (.str y t)) (h : y.cps.toList = cs := by first | rfl | decide +kernel) (hg : Gl X x := by rfl) (hd : (x == ("__debug__" : Str)) = false := by decide) : PD X T W (.Name x pos) (conE (.str cs)) :=
  pd_con (pe_glob hg hm (show RelV (.str y) (.str y t) from ⟨t, rfl⟩) hd) fun _ _ => .str cs y h
/-- a built-in type as a value -/
theorem pd_ty {x : Str} (n : String) (hm : X.mg x = none) (hv : bootBuiltins x = some (.type n) := by decide +kernel) (hg : Gl X x := by rfl) (hn : x ≠ "__name__" := by decide) (hd : (x == ("__debug__" : Str)) = false := by decide) : PD X T W (.Name x pos) (conE (.ty n)) :=
  pd_con (pe_bltn hg hm hv (show RelV (.ty n) (.type n) from rfl) hn hd) fun _ _ => .ty n

/-! ### two, one -/
def OpD (X : Cx) (T : List (Addr × Str)) (W : WX) (f : Value → Value → Sem Value) (φ : D → D → Sto → R D) : Prop :=
  ∃ r : R2, OpR X f r ∧ ∀ (g : G) (S : Sto) (σ : L2.St) (x y : D) (vx vy : V) (Q : VK), Ok (wd X T) g S → Rep (wd X T) g.F g.A x vx → Rep (wd X T) g.F g.A y vy →
    Post (wd X T) W σ g (φ x y S) (fun d _ g' => ∀ v, Rep (wd X T) g'.F g'.A d v → Q v g'.H) → r vx vy g.H Q
def bin2 (φ : D → D → Sto → R D) (fa fb : EM) : EM := fun δ S => (fa δ S).bind fun x S1 => (fb δ S1).bind fun y S2 => φ x y S2
theorem bin_go {φ : D → D → Sto → R D} {fa fb : EM} {r : R2} {ta tb : TE}
    (ha : ∀ (g : G) (S : Sto) (σ : L2.St) (δ : EnvD) (Q : VK), Ok (wd X T) g S → SRep (wd X T) g δ σ → Post (wd X T) W σ g (fa δ S) (fun d _ g' => ∀ v, Rep (wd X T) g'.F g'.A d v → Q v g'.H) → ta σ g.H Q)
    (hb : ∀ (g : G) (S : Sto) (σ : L2.St) (δ : EnvD) (Q : VK), Ok (wd X T) g S → SRep (wd X T) g δ σ → Post (wd X T) W σ g (fb δ S) (fun d _ g' => ∀ v, Rep (wd X T) g'.F g'.A d v → Q v g'.H) → tb σ g.H Q)
    (hr : ∀ (g : G) (S : Sto) (σ : L2.St) (x y : D) (vx vy : V) (Q : VK), Ok (wd X T) g S → Rep (wd X T) g.F g.A x vx → Rep (wd X T) g.F g.A y vy →
      Post (wd X T) W σ g (φ x y S) (fun d _ g' => ∀ v, Rep (wd X T) g'.F g'.A d v → Q v g'.H) → r vx vy g.H Q)
    (g : G) (S : Sto) (σ : L2.St) (δ : EnvD) (Q : VK) (o : Ok (wd X T) g S) (s : SRep (wd X T) g δ σ) (h : Post (wd X T) W σ g (bin2 φ fa fb δ S) (fun d _ g' => ∀ v, Rep (wd X T) g'.F g'.A d v → Q v g'.H)) : tOp r ta tb σ g.H Q := by
  refine ha g S σ δ _ o s (h.bind.imp fun x S1 g1 e1 o1 h1 v1 r1 => ?_)
  refine hb g1 S1 σ δ _ o1 (s.ext e1) (h1.bind.imp fun y S2 g2 e2 o2 h2 v2 r2 => ?_)
  exact hr g2 S2 σ x y v1 v2 Q o2 (r1.ext e2) r2 h2
theorem pd_op {op : Operator} {φ : D → D → Sto → R D} {fa fb : EM} (ho : OpD X T W (binaryOp op) φ) (ha : PD X T W a fa) (hb : PD X T W b fb) : PD X T W (.BinOp a op b pos) (bin2 φ fa fb) := by
  obtain ⟨r, hr, h⟩ := ho
  obtain ⟨ta, pa, qa⟩ := ha.ex
  obtain ⟨tb, pb, qb⟩ := hb.ex
  exact pd_of (pe_op hr pa pb) (bin_go qa qb h)
theorem pd_cmp {op : CmpOp} {φ : D → D → Sto → R D} {fa fb : EM} (ho : OpD X T W (compareOp op) φ) (ha : PD X T W a fa) (hb : PD X T W b fb) (hm : behindInMarks op b = false := by first | exact nomark _ | rfl | with_unfolding_all rfl) : PD X T W (.Compare a [op] [b] pos) (bin2 φ fa fb) := by
  obtain ⟨r, hr, h⟩ := ho
  obtain ⟨ta, pa, qa⟩ := ha.ex
  obtain ⟨tb, pb, qb⟩ := hb.ex
  exact pd_of (pe_cmpR hr pa pb hm) (bin_go qa qb h)
def toB (d : D) (S : Sto) : R Bool := match d with
  | .bl b => .ok b S
  | _ => .bad
/-- an expression's value, a bool, as a test -/
def tst (f : EM) : TM := fun δ S => (f δ S).bind toB
theorem tst_go {t : TE} {f : EM} (q : ∀ (g : G) (S : Sto) (σ : L2.St) (δ : EnvD) (Q : VK), Ok (wd X T) g S → SRep (wd X T) g δ σ → Post (wd X T) W σ g (f δ S) (fun d _ g' => ∀ v, Rep (wd X T) g'.F g'.A d v → Q v g'.H) → t σ g.H Q)
    (g : G) (S : Sto) (σ : L2.St) (δ : EnvD) (Q : Bool → Hp → Prop) (o : Ok (wd X T) g S) (s : SRep (wd X T) g δ σ) (h : Post (wd X T) W σ g (tst f δ S) (fun b _ g' => Q b g'.H)) : t σ g.H (fun x H1 => ∃ c, x = .bl c ∧ Q c H1) := by
  refine q g S σ δ _ o s (h.bind.imp fun d S1 g1 e1 o1 h1 v r => ?_)
  cases d with
  | bl b => cases r; exact ⟨b, rfl, h1.here o1⟩
  | _ => exact h1.elim
theorem ptd_cmp {op : CmpOp} {φ : D → D → Sto → R D} {fa fb : EM} (ho : OpD X T W (compareOp op) φ) (ha : PD X T W a fa) (hb : PD X T W b fb) (hm : behindInMarks op b = false := by first | exact nomark _ | rfl | with_unfolding_all rfl) : PTD X T W (.Compare a [op] [b] pos) (tst (bin2 φ fa fb)) := by
  obtain ⟨r, hr, h⟩ := ho
  obtain ⟨ta, pa, qa⟩ := ha.ex
  obtain ⟨tb, pb, qb⟩ := hb.ex
  exact ⟨_, pt_cmpR hr pa pb hm, tst_go (bin_go qa qb h)⟩
/-- any expression that gives a bool -/
theorem ptd_val {f : EM} (h : PD X T W e f) (he : ∀ whole, isTrue e X.env whole = (do let v ← whole; standAt e.pos; holding [v] (truthy v)) := by intro _; rfl) : PTD X T W e (tst f) := by
  obtain ⟨t, p, q⟩ := h.ex
  exact ⟨_, pt_val p he, tst_go q⟩
def chain3 (φ ψ : D → D → Sto → R D) (fa fb fc : EM) : EM := fun δ S => (fa δ S).bind fun x S1 => (fb δ S1).bind fun y S2 => (φ x y S2).bind fun z S3 => (toB z S3).bind fun k S4 => if k = true then (fc δ S4).bind fun u S5 => ψ y u S5 else .ok (.bl false) S4
theorem chain_go {φ ψ : D → D → Sto → R D} {fa fb fc : EM} {r r' : R2} {ta tb tc : TE}
    (ha : ∀ (g : G) (S : Sto) (σ : L2.St) (δ : EnvD) (Q : VK), Ok (wd X T) g S → SRep (wd X T) g δ σ → Post (wd X T) W σ g (fa δ S) (fun d _ g' => ∀ v, Rep (wd X T) g'.F g'.A d v → Q v g'.H) → ta σ g.H Q)
    (hb : ∀ (g : G) (S : Sto) (σ : L2.St) (δ : EnvD) (Q : VK), Ok (wd X T) g S → SRep (wd X T) g δ σ → Post (wd X T) W σ g (fb δ S) (fun d _ g' => ∀ v, Rep (wd X T) g'.F g'.A d v → Q v g'.H) → tb σ g.H Q)
    (hc : ∀ (g : G) (S : Sto) (σ : L2.St) (δ : EnvD) (Q : VK), Ok (wd X T) g S → SRep (wd X T) g δ σ → Post (wd X T) W σ g (fc δ S) (fun d _ g' => ∀ v, Rep (wd X T) g'.F g'.A d v → Q v g'.H) → tc σ g.H Q)
    (hr : ∀ (g : G) (S : Sto) (σ : L2.St) (x y : D) (vx vy : V) (Q : VK), Ok (wd X T) g S → Rep (wd X T) g.F g.A x vx → Rep (wd X T) g.F g.A y vy →
      Post (wd X T) W σ g (φ x y S) (fun d _ g' => ∀ v, Rep (wd X T) g'.F g'.A d v → Q v g'.H) → r vx vy g.H Q)
    (hr' : ∀ (g : G) (S : Sto) (σ : L2.St) (x y : D) (vx vy : V) (Q : VK), Ok (wd X T) g S → Rep (wd X T) g.F g.A x vx → Rep (wd X T) g.F g.A y vy →
      Post (wd X T) W σ g (ψ x y S) (fun d _ g' => ∀ v, Rep (wd X T) g'.F g'.A d v → Q v g'.H) → r' vx vy g.H Q)
    (g : G) (S : Sto) (σ : L2.St) (δ : EnvD) (Q : VK) (o : Ok (wd X T) g S) (s : SRep (wd X T) g δ σ) (h : Post (wd X T) W σ g (chain3 φ ψ fa fb fc δ S) (fun d _ g' => ∀ v, Rep (wd X T) g'.F g'.A d v → Q v g'.H)) : tChain r r' ta tb tc σ g.H Q := by
  refine ha g S σ δ _ o s (h.bind.imp fun x S1 g1 e1 o1 h1 v1 r1 => ?_)
  refine hb g1 S1 σ δ _ o1 (s.ext e1) (h1.bind.imp fun y S2 g2 e2 o2 h2 v2 r2 => ?_)
  refine hr g2 S2 σ x y v1 v2 _ o2 (r1.ext e2) r2 (h2.bind.imp fun z S3 g3 e3 o3 h3 v3 r3 => ?_)
  cases z with
  | bl k =>
    cases r3
    refine ⟨k, rfl, ?_⟩
    have h4 : Post (wd X T) W σ g3 (if k = true then (fc δ S3).bind fun u S5 => ψ y u S5 else .ok (.bl false) S3) (fun d _ g' => ∀ v, Rep (wd X T) g'.F g'.A d v → Q v g'.H) := h3
    cases k with
    | true =>
      rw [if_pos rfl] at h4 ⊢
      refine hc g3 S3 σ δ _ o3 (s.ext ((e1.trans e2).trans e3)) (h4.bind.imp fun u S5 g5 e5 o5 h5 v5 r5 => ?_)
      exact hr' g5 S5 σ y u v2 v5 Q o5 (r2.ext (e3.trans e5)) r5 h5
    | false =>
      rw [if_neg Bool.false_ne_true] at h4 ⊢
      exact h4.here o3 _ (.bl false)
  | _ => exact h3.elim
theorem pd_chain {op op' : CmpOp} {φ ψ : D → D → Sto → R D} {fa fb fc : EM} (ho : OpD X T W (compareOp op) φ) (ho' : OpD X T W (compareOp op') ψ) (ha : PD X T W a fa) (hb : PD X T W b fb) (hc : PD X T W c fc)
    (hm : lastMarks [op, op'] [b, c] = false := by with_unfolding_all rfl) : PD X T W (.Compare a [op, op'] [b, c] pos) (chain3 φ ψ fa fb fc) := by
  obtain ⟨r, hr, h⟩ := ho
  obtain ⟨r', hr', h'⟩ := ho'
  obtain ⟨ta, pa, qa⟩ := ha.ex
  obtain ⟨tb, pb, qb⟩ := hb.ex
  obtain ⟨tc, pc, qc⟩ := hc.ex
  exact pd_of (pe_chain hr hr' pa pb pc hm) (chain_go qa qb qc h h')
theorem ptd_chain {op op' : CmpOp} {φ ψ : D → D → Sto → R D} {fa fb fc : EM} (ho : OpD X T W (compareOp op) φ) (ho' : OpD X T W (compareOp op') ψ) (ha : PD X T W a fa) (hb : PD X T W b fb) (hc : PD X T W c fc)
    (hm : lastMarks [op, op'] [b, c] = false := by with_unfolding_all rfl) : PTD X T W (.Compare a [op, op'] [b, c] pos) (tst (chain3 φ ψ fa fb fc)) := by
  obtain ⟨r, hr, h⟩ := ho
  obtain ⟨r', hr', h'⟩ := ho'
  obtain ⟨ta, pa, qa⟩ := ha.ex
  obtain ⟨tb, pb, qb⟩ := hb.ex
  obtain ⟨tc, pc, qc⟩ := hc.ex
  exact ⟨_, pt_chain hr hr' pa pb pc hm, tst_go (chain_go qa qb qc h h')⟩

/-! ### and, or, not, if -/
def andT (f u : TM) : TM := fun δ S => (f δ S).bind fun c S1 => if c = true then u δ S1 else .ok false S1
def orT (f u : TM) : TM := fun δ S => (f δ S).bind fun c S1 => if c = true then .ok true S1 else u δ S1
def notT (f : TM) : TM := fun δ S => (f δ S).bind fun c S1 => .ok (!c) S1
theorem PWD.pt {f : TM} (h : PWD X T W e f) : PTD X T W e f := by
  obtain ⟨t, p, q⟩ := h.ex
  exact ⟨t, p.pt, q⟩
theorem pwd_and1 {f : TM} (h : PTD X T W a f) : PWD X T W (.BoolOp .And [a] pos) f := by
  obtain ⟨t, p, q⟩ := h.ex
  exact ⟨t, pw_and1 p, q⟩
theorem pwd_or1 {f : TM} (h : PTD X T W a f) : PWD X T W (.BoolOp .Or [a] pos) f := by
  obtain ⟨t, p, q⟩ := h.ex
  exact ⟨t, pw_or1 p, q⟩
theorem pwd_and {f u : TM} (h : PTD X T W a f) (h2 : PWD X T W (.BoolOp .And (b :: rest) pos) u) : PWD X T W (.BoolOp .And (a :: b :: rest) pos) (andT f u) := by
  obtain ⟨t, p, q⟩ := h.ex
  obtain ⟨t2, p2, q2⟩ := h2.ex
  refine ⟨_, pw_and p p2, fun g S σ δ Q o s h => ?_⟩
  refine q g S σ δ _ o s (h.bind.imp fun c S1 g1 e1 o1 h1 => ?_)
  cases c with
  | true => exact q2 g1 S1 σ δ Q o1 (s.ext e1) h1
  | false => exact h1.here o1
theorem pwd_or {f u : TM} (h : PTD X T W a f) (h2 : PWD X T W (.BoolOp .Or (b :: rest) pos) u) : PWD X T W (.BoolOp .Or (a :: b :: rest) pos) (orT f u) := by
  obtain ⟨t, p, q⟩ := h.ex
  obtain ⟨t2, p2, q2⟩ := h2.ex
  refine ⟨_, pw_or p p2, fun g S σ δ Q o s h => ?_⟩
  refine q g S σ δ _ o s (h.bind.imp fun c S1 g1 e1 o1 h1 => ?_)
  cases c with
  | false => exact q2 g1 S1 σ δ Q o1 (s.ext e1) h1
  | true => exact h1.here o1
theorem ptd_not {f : TM} (h : PTD X T W a f) : PTD X T W (.UnaryOp .Not a pos) (notT f) := by
  obtain ⟨t, p, q⟩ := h.ex
  refine ⟨_, pt_not p, fun g S σ δ Q o s h => ?_⟩
  exact q g S σ δ _ o s (h.bind.imp fun c S1 g1 e1 o1 h1 => h1.here o1)
def andV (f u : EM) : EM := fun δ S => (tst f δ S).bind fun c S1 => if c = true then u δ S1 else .ok (.bl false) S1
def orV (f u : EM) : EM := fun δ S => (tst f δ S).bind fun c S1 => if c = true then .ok (.bl true) S1 else u δ S1
def notV (f : EM) : EM := fun δ S => (tst f δ S).bind fun c S1 => .ok (.bl (!c)) S1
theorem pd_one {op : BoolOp} {f : EM} (h : PD X T W a f) : PD X T W (.BoolOp op [a] pos) f := by
  obtain ⟨t, p, q⟩ := h.ex
  exact pd_of (pe_one p) q
theorem pd_and {f u : EM} (h : PD X T W a f) (h2 : PD X T W (.BoolOp .And (b :: rest) pos) u) : PD X T W (.BoolOp .And (a :: b :: rest) pos) (andV f u) := by
  obtain ⟨t, p, q⟩ := h.ex
  obtain ⟨t2, p2, q2⟩ := h2.ex
  refine pd_of (pe_and p p2) fun g S σ δ Q o s h => ?_
  refine tst_go q g S σ δ (fun c H1 => if c = true then t2 σ H1 Q else Q (.bl false) H1) o s (h.bind.imp fun c S1 g1 e1 o1 h1 => ?_)
  cases c with
  | true => exact q2 g1 S1 σ δ Q o1 (s.ext e1) h1
  | false => exact h1.here o1 _ (.bl false)
theorem pd_or {f u : EM} (h : PD X T W a f) (h2 : PD X T W (.BoolOp .Or (b :: rest) pos) u) : PD X T W (.BoolOp .Or (a :: b :: rest) pos) (orV f u) := by
  obtain ⟨t, p, q⟩ := h.ex
  obtain ⟨t2, p2, q2⟩ := h2.ex
  refine pd_of (pe_or p p2) fun g S σ δ Q o s h => ?_
  refine tst_go q g S σ δ (fun c H1 => if c = true then Q (.bl true) H1 else t2 σ H1 Q) o s (h.bind.imp fun c S1 g1 e1 o1 h1 => ?_)
  cases c with
  | false => exact q2 g1 S1 σ δ Q o1 (s.ext e1) h1
  | true => exact h1.here o1 _ (.bl true)
theorem pd_not {f : EM} (h : PD X T W a f) : PD X T W (.UnaryOp .Not a pos) (notV f) := by
  obtain ⟨t, p, q⟩ := h.ex
  refine pd_of (pe_not p) fun g S σ δ Q o s h => ?_
  refine tst_go q g S σ δ (fun c H1 => Q (.bl (!c)) H1) o s (h.bind.imp fun c S1 g1 e1 o1 h1 => h1.here o1 _ (.bl _))
def ifE (c : TM) (f u : EM) : EM := fun δ S => (c δ S).bind fun k S1 => if k = true then f δ S1 else u δ S1
theorem pd_if {f u : EM} {k : TM} (hc : PTD X T W c k) (ha : PD X T W a f) (hb : PD X T W b u) : PD X T W (.IfExp c a b pos) (ifE k f u) := by
  obtain ⟨tc, pc, qc⟩ := hc.ex
  obtain ⟨t, p, q⟩ := ha.ex
  obtain ⟨t2, p2, q2⟩ := hb.ex
  refine pd_of (pe_ifExp pc p p2) fun g S σ δ Q o s h => ?_
  refine qc g S σ δ (fun d H1 => if d = true then t σ H1 Q else t2 σ H1 Q) o s (h.bind.imp fun c S1 g1 e1 o1 h1 => ?_)
  cases c with
  | true => exact q g1 S1 σ δ Q o1 (s.ext e1) h1
  | false => exact q2 g1 S1 σ δ Q o1 (s.ext e1) h1

/-! ### arguments, displays -/
def nilA : AM := fun _ S => .ok [] S
def consA (f : EM) (u : AM) : AM := fun δ S => (f δ S).bind fun d S1 => (u δ S1).bind fun ds S2 => .ok (d :: ds) S2
theorem pad_nil : PAD X T W [] nilA := ⟨_, pa_nil, fun g S σ δ Q o s h => h.here o [] .nil⟩
theorem pad_cons {f : EM} {u : AM} (ha : PD X T W e f) (hr : PAD X T W es u) (hs : starEach (e :: es) X.env = (false, eval e X.env) :: starEach es X.env := by rfl) : PAD X T W (e :: es) (consA f u) := by
  obtain ⟨t, p, q⟩ := ha.ex
  obtain ⟨t2, p2, q2⟩ := hr.ex
  refine ⟨_, pa_cons p p2 hs, fun g S σ δ Q o s h => ?_⟩
  refine q g S σ δ _ o s (h.bind.imp fun d S1 g1 e1 o1 h1 v r => ?_)
  refine q2 g1 S1 σ δ _ o1 (s.ext e1) (h1.bind.imp fun ds S2 g2 e2 o2 h2 vs rs => ?_)
  exact h2.here o2 _ (.cons _ _ _ _ (r.ext e2) rs)
def tupE (u : AM) : EM := fun δ S => (u δ S).bind fun ds S1 => if ds.length ≤ sizeLine then .ok (.tup ds) S1 else .bad
theorem pd_tup {u : AM} {k : Nat} (h : PAD X T W es u) : PD X T W (.Tuple es k pos) (tupE u) := by
  obtain ⟨t, p, q⟩ := h.ex
  refine pd_of (pe_tup p) fun g S σ δ Q o s h => ?_
  refine q g S σ δ _ o s (h.bind.imp fun ds S1 g1 e1 o1 h1 vs r => ?_)
  by_cases hl : ds.length ≤ sizeLine
  · rw [if_pos hl] at h1
    refine ⟨by rw [← r.length]; exact hl, fun p hp => ?_⟩
    exact h1 (g1.frz p (.tup vs)) (Ext.frz o1 hp) (o1.frz hp) _ (.tup _ _ vs upd_same (r.ext (Ext.frz o1 hp)))
  · rw [if_neg hl] at h1
    exact h1.elim
def lstE (u : AM) : AM := fun δ S => (u δ S).bind fun ds S1 => if ds.length ≤ sizeLine then .ok ds S1 else .bad
theorem pld_lst {u : AM} (h : PAD X T W es u) : PLD X T W (.List es pos) (lstE u) := by
  obtain ⟨t, p, q⟩ := h.ex
  refine ⟨_, pe_lst p, fun g S σ δ Q o s h => ?_⟩
  refine q g S σ δ _ o s (h.bind.imp fun ds S1 g1 e1 o1 h1 vs r => ?_)
  by_cases hl : ds.length ≤ sizeLine
  · rw [if_pos hl] at h1
    refine ⟨by rw [← r.length]; exact hl, fun p hp => ?_⟩
    have hp0 : g.H p = none := by
      cases e : g.H p with
      | none => rfl
      | some o => exact absurd hp (e1.al p (by rw [e]; exact fun z => nomatch z))
    exact h1 (g1.tmp p (.lst vs)) (Ext.tmp hp) (o1.tmp hp) p vs hp0 upd_same (o1.noA hp) (o1.noF hp) r
  · rw [if_neg hl] at h1
    exact h1.elim
/-- a new list that never changes -/
def frzE (u : AM) : EM := fun δ S => (u δ S).bind fun ds S1 => .ok (.lst ds) S1
theorem MRep.mono {w : Wd} {g g' : G} {a : Addr} {m : MO} (hF : ∀ a o, g.F a = some o → g'.F a = some o) (hA : ∃ m, g'.A = g.A ++ m) (hH : ∀ o, g.H a = some o → g'.H a = some o) (h : MRep w g a m) : MRep w g' a m := by
  cases m with
  | dead => trivial
  | lst ds => obtain ⟨vs, h1, h2⟩ := h; exact ⟨vs, hH _ h1, h2.mono hF hA⟩
  | ins c fs => obtain ⟨C, dx, vs, h0, h1, h2⟩ := h; exact ⟨C, dx, vs, h0, hH _ h1, h2.mono hF hA⟩
  | dK kvs => obtain ⟨vs, h1, h2⟩ := h; exact ⟨vs, hH _ h1, h2.mono hF hA⟩
  | dT kvs => obtain ⟨vs, h1, h2⟩ := h; exact ⟨vs, hH _ h1, h2.mono hF hA⟩
/-- an object that came since g0 changes no more -/
theorem ok_still {w : Wd} {g0 g : G} {S : Sto} (o : Ok w g S) (e0 : Ext g0 g) {p : Addr} {u : HO} (h0 : g0.H p = none) (h1 : g.H p = some u) (h2 : p ∉ g.A) (h3 : g.F p = none) : Ok w ⟨upd g.F p u, g.A, g.H⟩ S ∧ Ext g0 ⟨upd g.F p u, g.A, g.H⟩ := by
  have hF : ∀ b z, g.F b = some z → upd g.F p u b = some z := fun b z h' => upd_kp h3 b z h'
  have e : Ext g0 ⟨upd g.F p u, g.A, g.H⟩ := ⟨fun b z h' => hF b z (e0.fr b z h'), e0.ad, e0.kp, e0.al, e0.nw, fun b hb n => by
    by_cases eb : b = p
    · subst eb; exact .inl h0
    · have q : upd g.F p u b ≠ none := hb
      rw [upd_ne eb] at q
      exact e0.fz b q n⟩
  refine ⟨⟨fun b z h' => ?_, o.len, o.nd, o.on, fun k b m a1 a2 => (o.mo k b m a1 a2).mono hF ⟨[], by simp⟩ fun u h' => h', fun k b m a1 a2 a3 => ?_, o.tab⟩, e⟩
  · by_cases eb : b = p
    · subst eb
      have q : upd g.F b u b = some z := h'
      rw [upd_same] at q
      cases q
      exact h1
    · have q : upd g.F p u b = some z := h'
      rw [upd_ne eb] at q
      exact o.sub b z q
  · have eb : b ≠ p := fun z => h2 (z ▸ List.mem_of_getElem? a1)
    show upd g.F p u b = none
    rw [upd_ne eb]
    exact o.fr k b m a1 a2 a3
def QE (w : Wd) (W : WX) (t : TE) (f : EM) : Prop := ∀ (g : G) (S : Sto) (σ : L2.St) (δ : EnvD) (Q : VK), Ok w g S → SRep w g δ σ →
  Post w W σ g (f δ S) (fun d _ g' => ∀ v, Rep w g'.F g'.A d v → Q v g'.H) → t σ g.H Q
def QL (w : Wd) (W : WX) (t : TE) (f : AM) : Prop := ∀ (g : G) (S : Sto) (σ : L2.St) (δ : EnvD) (Q : VK), Ok w g S → SRep w g δ σ →
  Post w W σ g (f δ S) (fun ds _ g' => ∀ p vs, g.H p = none → g'.H p = some (.lst vs) → p ∉ g'.A → g'.F p = none → Reps w g'.F g'.A ds vs → Q (.ref p) g'.H) → t σ g.H Q
theorem QL.frz {w : Wd} {t : TE} {u : AM} (q : QL w W t u) : QE w W t (frzE u) := by
  refine fun g S σ δ Q o s h => ?_
  refine q g S σ δ _ o s ?_
  unfold frzE at h
  cases hu : u δ S with
  | exc x S1 => rw [hu] at h; exact h
  | bad => rw [hu] at h; exact h.elim
  | ok ds S1 =>
    rw [hu] at h
    intro g1 e1 o1 p vs h0 hp hA hF r
    obtain ⟨o2, e2⟩ := ok_still o1 e1 h0 hp hA hF
    have h' : ∀ g', Ext g g' → Ok w g' S1 → ∀ v, Rep w g'.F g'.A (.lst ds) v → Q v g'.H := h
    exact h' _ e2 o2 _ (.lst _ _ vs upd_same (r.mono (fun b z h' => upd_kp hF b z h') ⟨[], by simp⟩))
theorem pd_frz {u : AM} (h : PLD X T W e u) : PD X T W e (frzE u) := by
  obtain ⟨t, p, q⟩ := h.ex
  exact pd_of p (QL.frz q)
/-- a new list that may change -/
def newE (u : AM) : EM := fun δ S => (u δ S).bind fun ds S1 => .ok (.obj S1.length) (S1 ++ [.lst ds])
theorem QL.new {w : Wd} {t : TE} {u : AM} (q : QL w W t u) : QE w W t (newE u) := by
  refine fun g S σ δ Q o s h => ?_
  refine q g S σ δ _ o s ?_
  unfold newE at h
  cases hu : u δ S with
  | exc x S1 => rw [hu] at h; exact h
  | bad => rw [hu] at h; exact h.elim
  | ok ds S1 =>
    rw [hu] at h
    intro g1 e1 o1 p vs h0 hp hA hF r
    have h' : ∀ g', Ext g g' → Ok w g' (S1 ++ [.lst ds]) → ∀ v, Rep w g'.F g'.A (.obj S1.length) v → Q v g'.H := h
    have e2 : Ext g ⟨g1.F, g1.A ++ [p], g1.H⟩ := ⟨e1.fr, by
        obtain ⟨m, e⟩ := e1.ad
        exact ⟨m ++ [p], by simp [e]⟩, e1.kp, e1.al, fun b hb n => by
        rcases List.mem_append.mp hb with z | z
        · exact e1.nw b z n
        · rw [List.mem_singleton.mp z]; exact h0, e1.fz⟩
    have mono : ∀ {b : Addr} {m : MO}, MRep w g1 b m → MRep w ⟨g1.F, g1.A ++ [p], g1.H⟩ b m := fun {b m} z => MRep.mono (g := g1) (fun _ _ q => q) ⟨[p], rfl⟩ (fun _ q => q) z
    have o2 : Ok w ⟨g1.F, g1.A ++ [p], g1.H⟩ (S1 ++ [.lst ds]) := by
      refine ⟨o1.sub, by simp [o1.len], ?_, fun b hb => ?_, fun k b m a1 a2 => ?_, fun k b m a1 a2 a3 => ?_, o1.tab⟩
      · show (g1.A ++ [p]).Nodup
        rw [List.nodup_append]
        refine ⟨o1.nd, by simp, fun a ha b hb e => ?_⟩
        rw [List.mem_singleton.mp hb] at e
        exact hA (e ▸ ha)
      · rcases List.mem_append.mp hb with z | z
        · exact o1.on b z
        · rw [List.mem_singleton.mp z]
          show g1.H p ≠ none
          rw [hp]
          exact fun z => nomatch z
      · rcases get_snoc a1 with a1 | ⟨k1, q1⟩
        · rcases get_snoc a2 with a2 | ⟨k2, q2⟩
          · exact mono (o1.mo k b m a1 a2)
          · have := (List.getElem?_eq_some_iff.mp a1).1
            have := o1.len
            omega
        · rcases get_snoc a2 with a2 | ⟨k2, q2⟩
          · have := (List.getElem?_eq_some_iff.mp a2).1
            have := o1.len
            omega
          · subst q1 q2
            exact ⟨vs, hp, r.mono (fun _ _ q => q) ⟨[b], rfl⟩⟩
      · rcases get_snoc a1 with a1 | ⟨k1, q1⟩
        · rcases get_snoc a2 with a2 | ⟨k2, q2⟩
          · exact o1.fr k b m a1 a2 a3
          · have := (List.getElem?_eq_some_iff.mp a1).1
            have := o1.len
            omega
        · subst q1
          exact hF
    refine h' _ e2 o2 _ (.obj _ p ?_)
    show (g1.A ++ [p])[S1.length]? = some p
    rw [List.getElem?_append_right (by rw [o1.len]; exact Nat.le_refl _), o1.len, Nat.sub_self]
    rfl
theorem pd_new {u : AM} (h : PLD X T W e u) : PD X T W e (newE u) := by
  obtain ⟨t, p, q⟩ := h.ex
  exact pd_of p (QL.new q)
end
end L3
set_option Elab.async false
set_option linter.all false
set_option maxRecDepth 100000
set_option maxHeartbeats 2000000
set_option autoImplicit false
namespace L3
open PySem PySem.Spec PyProof.Rows L2

inductive SR where
  | nx (δ : EnvD) (S : Sto)
  | rt (d : D) (S : Sto)
  | bk (δ : EnvD) (S : Sto)
  | ct (δ : EnvD) (S : Sto)
  | ex (e : Exc) (δ : EnvD) (S : Sto)
  | bad
abbrev SM := EnvD → Sto → SR
def PostS (w : Wd) (W : WX) (g : G) (r : SR) (E : Ends) : Prop :=
  match r with
  | .nx δ S' => ∀ g' σ, Ext g g' → Ok w g' S' → SRep w g' δ σ → E.nx σ g'.H
  | .bk δ S' => ∀ g' σ, Ext g g' → Ok w g' S' → SRep w g' δ σ → E.bk σ g'.H
  | .ct δ S' => ∀ g' σ, Ext g g' → Ok w g' S' → SRep w g' δ σ → E.ct σ g'.H
  | .rt d S' => ∀ g' v, Ext g g' → Ok w g' S' → Rep w g'.F g'.A d v → E.rt v g'.H
  | .ex e δ S' => ∀ g' σ cls dd, Ext g g' → Ok w g' S' → SRep w g' δ σ → XRep w g' e cls dd → W cls dd σ g'.H
  | .bad => False
theorem PostS.step {w : Wd} {W : WX} {g g1 : G} {r : SR} {E : Ends} (e : Ext g g1) (h : PostS w W g r E) : PostS w W g1 r E := by
  cases r with
  | nx δ S => exact fun g' σ e' o s => h g' σ (e.trans e') o s
  | bk δ S => exact fun g' σ e' o s => h g' σ (e.trans e') o s
  | ct δ S => exact fun g' σ e' o s => h g' σ (e.trans e') o s
  | rt d S => exact fun g' v e' o r => h g' v (e.trans e') o r
  | ex x δ S => exact fun g' σ c d e' o s r => h g' σ c d (e.trans e') o s r
  | bad => exact h
/-- from an expression to a statement -/
def R.toS {α : Type} (r : R α) (δ : EnvD) (k : α → Sto → SR) : SR :=
  match r with
  | .ok a S => k a S
  | .exc e S => .ex e δ S
  | .bad => .bad
@[simp] theorem toS_ok {α : Type} (a : α) (S : Sto) (δ : EnvD) (k : α → Sto → SR) : (R.ok a S).toS δ k = k a S := id rfl
@[simp] theorem toS_exc {α : Type} (e : Exc) (S : Sto) (δ : EnvD) (k : α → Sto → SR) : (R.exc e S : R α).toS δ k = .ex e δ S := id rfl
@[simp] theorem toS_bad {α : Type} (δ : EnvD) (k : α → Sto → SR) : (R.bad : R α).toS δ k = .bad := id rfl
theorem PostS.toS {α : Type} {w : Wd} {W : WX} {g : G} {r : R α} {δ : EnvD} {σ : L2.St} {k : α → Sto → SR} {E : Ends} (s : SRep w g δ σ) (h : PostS w W g (r.toS δ k) E) : Post w W σ g r (fun a S' g' => PostS w W g' (k a S') E) := by
  cases r with
  | ok a S => exact fun g' e o => PostS.step e h
  | exc x S => exact fun g' c d e o q => h g' σ c d e o (s.ext e) q
  | bad => exact h

structure PSD (X : Cx) (T : List (Addr × Str)) (W : WX) (st : Stmt) (f : SM) : Prop where
  ex : ∃ t : TS, PS X st t ∧ ∀ (g : G) (S : Sto) (σ : L2.St) (δ : EnvD) (E : Ends), Ok (wd X T) g S → SRep (wd X T) g δ σ → PostS (wd X T) W g (f δ S) E → t E σ g.H
structure PSsD (X : Cx) (T : List (Addr × Str)) (W : WX) (st : List Stmt) (f : SM) : Prop where
  ex : ∃ t : TS, PSs X st t ∧ ∀ (g : G) (S : Sto) (σ : L2.St) (δ : EnvD) (E : Ends), Ok (wd X T) g S → SRep (wd X T) g δ σ → PostS (wd X T) W g (f δ S) E → t E σ g.H
/-- a target: which slots it may store to -/
abbrev BM := D → EnvD → Option EnvD
abbrev BMs := List D → EnvD → Option EnvD
def Kept (vs : List Nat) (σ σ' : L2.St) : Prop := σ'.length = σ.length ∧ ∀ j, j ∉ vs → σ'[j]? = σ[j]?
structure PGD (X : Cx) (T : List (Addr × Str)) (tg : Expr) (vs : List Nat) (β : BM) : Prop where
  ex : ∃ t : TG, PG X tg t ∧ ∀ (g : G) (S : Sto) (σ : L2.St) (δ δ' : EnvD) (d : D) (v : V) (Q : L2.St → Hp → Prop), Ok (wd X T) g S → SRep (wd X T) g δ σ → Rep (wd X T) g.F g.A d v → β d δ = some δ' →
    (∀ σ', SRep (wd X T) g δ' σ' → Kept vs σ σ' → Q σ' g.H) → t v σ g.H Q
structure PGsD (X : Cx) (T : List (Addr × Str)) (tgs : List Expr) (vs : List Nat) (β : BMs) : Prop where
  ex : ∃ t : TGs, PGs X tgs t ∧ ∀ (g : G) (S : Sto) (σ : L2.St) (δ δ' : EnvD) (ds : List D) (us : List V) (Q : L2.St → Hp → Prop), Ok (wd X T) g S → SRep (wd X T) g δ σ → Reps (wd X T) g.F g.A ds us → β ds δ = some δ' →
    (∀ σ', SRep (wd X T) g δ' σ' → Kept vs σ σ' → Q σ' g.H) → t us σ g.H Q
/-- what a loop walks -/
inductive ItS where
  | stat (ds : List D)
  | mutl (k n : Nat)
def ItS.nxt : ItS → Nat → Sto → Option (Option D)
  | .stat ds, i, _ => if ds.length < i then none else some ds[i]?
  | .mutl k _, i, S => match S[k]? with
    | some (.lst xs) => some xs[i]?
    | _ => none
def ItS.size : ItS → Nat
  | .stat ds => ds.length
  | .mutl _ n => n
def Serves (w : Wd) (g0 : G) (it : ItS) (J : It) : Prop := ∀ (i : Nat) (g : G) (S : Sto), WExt g0 g → Ok w g S → match it.nxt i S with
  | none => True
  | some none => J.stop i g.H
  | some (some d) => J.go i g.H ∧ ∀ x H', J.yld i g.H x H' → ∃ g', g'.H = H' ∧ Ext g g' ∧ Ok w g' S ∧ Rep w g'.F g'.A d x
structure PID (X : Cx) (T : List (Addr × Str)) (W : WX) (tg iter : Expr) (f : EnvD → Sto → R ItS) : Prop where
  ex : ∃ wi : TI, PI X tg iter wi ∧ ∀ (g : G) (S : Sto) (σ : L2.St) (δ : EnvD) (Q : It → Hp → Prop), Ok (wd X T) g S → SRep (wd X T) g δ σ →
    Post (wd X T) W σ g (f δ S) (fun it _ g' => ∀ J, Serves (wd X T) g' it J → Q J g'.H) → wi σ g.H Q

section
variable {X : Cx} {T : List (Addr × Str)} {W : WX} {a b c e : Expr} {es rest : List Expr} {pos : Pos} {st : Stmt} {sts : List Stmt}
/-! ### blocks -/
def nxS : SM := fun δ S => .nx δ S
def seqS (f u : SM) : SM := fun δ S => match f δ S with
  | .nx δ' S' => u δ' S'
  | r => r
theorem pssd_nil : PSsD X T W [] nxS := ⟨_, pss_nil, fun g S σ δ E o s h => h g σ (Ext.refl g) o s⟩
theorem seq_post {w : Wd} {g : G} {f u : SM} {δ : EnvD} {S : Sto} {E : Ends} {t2 : TS} (h : PostS w W g (seqS f u δ S) E)
    (q2 : ∀ (g1 : G) (S1 : Sto) (σ1 : L2.St) (δ1 : EnvD), Ext g g1 → Ok w g1 S1 → SRep w g1 δ1 σ1 → PostS w W g1 (u δ1 S1) E → t2 E σ1 g1.H) : PostS w W g (f δ S) { E with nx := t2 E } := by
  unfold seqS at h
  cases hf : f δ S with
  | nx δ' S' => rw [hf] at h; exact fun g' σ e o s => q2 g' S' σ δ' e o s (PostS.step e h)
  | rt d S' => rw [hf] at h; exact h
  | bk δ' S' => rw [hf] at h; exact h
  | ct δ' S' => rw [hf] at h; exact h
  | ex x δ' S' => rw [hf] at h; exact h
  | bad => rw [hf] at h; exact h
theorem pssd_cons {f u : SM} (h1 : PSD X T W st f) (h2 : PSsD X T W sts u) : PSsD X T W (st :: sts) (seqS f u) := by
  obtain ⟨t, p, q⟩ := h1.ex
  obtain ⟨t2, p2, q2⟩ := h2.ex
  exact ⟨_, pss_cons p p2, fun g S σ δ E o s h => q g S σ δ _ o s (seq_post h fun g1 S1 σ1 δ1 e1 o1 s1 h1 => q2 g1 S1 σ1 δ1 E o1 s1 h1)⟩
theorem pssd_one {f : SM} (h1 : PSD X T W st f) : PSsD X T W [st] f := by
  obtain ⟨t, p, q⟩ := h1.ex
  exact ⟨_, pss_one p, q⟩
theorem psd_pass : PSD X T W (.Pass pos) nxS := ⟨_, ps_pass, fun g S σ δ E o s h => h g σ (Ext.refl g) o s⟩
theorem psd_break : PSD X T W (.Break pos) (fun δ S => .bk δ S) := ⟨_, ps_break, fun g S σ δ E o s h => h g σ (Ext.refl g) o s⟩
theorem psd_cont : PSD X T W (.Continue pos) (fun δ S => .ct δ S) := ⟨_, ps_continue, fun g S σ δ E o s h => h g σ (Ext.refl g) o s⟩
theorem psd_never : PSD X T W st (fun _ _ => .bad) := ⟨_, ps_never, fun g S σ δ E o s h => h.elim⟩
theorem pssd_never : PSsD X T W sts (fun _ _ => .bad) := ⟨_, pss_never, fun g S σ δ E o s h => h.elim⟩
def dropS (f : EM) : SM := fun δ S => (f δ S).toS δ fun _ S1 => .nx δ S1
theorem psd_expr {f : EM} (h : PD X T W e f) (hs : swapsWith e none pos.line X.env = pure false := by rfl) : PSD X T W (.Expr e pos) (dropS f) := by
  obtain ⟨t, p, q⟩ := h.ex
  refine ⟨_, ps_expr p hs, fun g S σ δ E o s h => ?_⟩
  exact q g S σ δ _ o s ((h.toS s).imp fun d S1 g1 e1 o1 h1 v r => h1 g1 σ (Ext.refl g1) o1 (s.ext e1))
def retS (f : EM) : SM := fun δ S => (f δ S).toS δ fun d S1 => .rt d S1
theorem psd_ret {f : EM} (h : PD X T W e f) : PSD X T W (.Return (some e) pos) (retS f) := by
  obtain ⟨t, p, q⟩ := h.ex
  refine ⟨_, ps_ret p, fun g S σ δ E o s h => ?_⟩
  exact q g S σ δ _ o s ((h.toS s).imp fun d S1 g1 e1 o1 h1 v r => h1 g1 v (Ext.refl g1) o1 r)
theorem psd_retN : PSD X T W (.Return none pos) (fun _ S => .rt .non S) := ⟨_, ps_retN, fun g S σ δ E o s h => h g _ (Ext.refl g) o .non⟩
def ifS (c : TM) (f u : SM) : SM := fun δ S => (c δ S).toS δ fun k S1 => if k = true then f δ S1 else u δ S1
theorem psd_if {c : Expr} {bt bf : List Stmt} {k : TM} {f u : SM} (hc : PTD X T W c k) (ha : PSsD X T W bt f) (hb : PSsD X T W bf u) : PSD X T W (.If c bt bf pos) (ifS k f u) := by
  obtain ⟨tc, pc, qc⟩ := hc.ex
  obtain ⟨t, p, q⟩ := ha.ex
  obtain ⟨t2, p2, q2⟩ := hb.ex
  refine ⟨_, ps_if pc p p2, fun g S σ δ E o s h => ?_⟩
  refine qc g S σ δ _ o s ((h.toS s).imp fun k S1 g1 e1 o1 h1 => ?_)
  cases k with
  | true => exact q g1 S1 σ δ E o1 (s.ext e1) h1
  | false => exact q2 g1 S1 σ δ E o1 (s.ext e1) h1

/-! ### targets, assignments -/
def bName (i : Nat) : BM := fun d δ => some (δ.set i (some d))
theorem pgd_name {i : Nat} {x : Str} (hN : X.N.Nodup) (hi : X.N[i]? = some x := by rfl) (hx : Loc X.env.scope x := by first | exact Or.inl rfl | exact Or.inr rfl)
    (hf : X.fn x = true ∨ X.env.scope.names.lookup x = some .local := by first | exact .inl rfl | exact .inr rfl | assumption) : PGD X T (.Name x pos) [i] (bName i) := by
  refine ⟨_, pg_name hN hi hx hf, fun g S σ δ δ' d v Q o s r hb q => ?_⟩
  cases hb
  refine q _ (s.set r i) ⟨by simp, fun j hj => ?_⟩
  rw [List.getElem?_set_ne (fun z => hj (by simp [z]))]
def bNil : BMs := fun ds δ => match ds with
  | [] => some δ
  | _ => none
def bCons (β : BM) (γ : BMs) : BMs := fun ds δ => match ds with
  | d :: r => match β d δ with
    | some δ' => γ r δ'
    | none => none
  | [] => none
theorem pgsd_nil : PGsD X T [] [] bNil := by
  refine ⟨_, pgs_nil, fun g S σ δ δ' ds us Q o s r hb q => ?_⟩
  cases r with
  | nil => cases hb; exact ⟨rfl, q σ s ⟨rfl, fun _ _ => rfl⟩⟩
  | cons => cases hb
theorem pgsd_cons {tg : Expr} {tgs : List Expr} {vs us : List Nat} {β : BM} {γ : BMs} (h1 : PGD X T tg vs β) (h2 : PGsD X T tgs us γ)
    (hs : (assignEach (tg :: tgs) X.env).map (·.2) = assign tg X.env :: (assignEach tgs X.env).map (·.2) := by rfl) : PGsD X T (tg :: tgs) (vs ++ us) (bCons β γ) := by
  obtain ⟨t, p, q⟩ := h1.ex
  obtain ⟨t2, p2, q2⟩ := h2.ex
  refine ⟨_, pgs_cons p p2 hs, fun g S σ δ δ' ds ws Q o s r hb k => ?_⟩
  cases r with
  | nil => cases hb
  | cons d v ds ws h t =>
    unfold bCons at hb
    cases hd : β d δ with
    | none => simp [hd] at hb
    | some δ1 =>
      simp only [hd] at hb
      refine ⟨v, ws, rfl, q g S σ δ δ1 d v _ o s h hd fun σ1 s1 k1 => ?_⟩
      refine q2 g S σ1 δ1 δ' ds ws Q o s1 t hb fun σ2 s2 k2 => k σ2 s2 ⟨k2.1.trans k1.1, fun j hj => ?_⟩
      rw [k2.2 j (fun z => hj (by simp [z])), k1.2 j (fun z => hj (by simp [z]))]
def bTup (γ : BMs) : BM := fun d δ => match d with
  | .tup ds => γ ds δ
  | _ => none
def lenB (γ : BMs) (n : Nat) : Prop := ∀ ds δ δ', γ ds δ = some δ' → ds.length = n
theorem lenB_nil : lenB bNil 0 := fun ds δ δ' h => by
  cases ds with
  | nil => rfl
  | cons => cases h
theorem lenB_cons {β : BM} {γ : BMs} {n : Nat} (h : lenB γ n) : lenB (bCons β γ) (n + 1) := fun ds δ δ' q => by
  cases ds with
  | nil => cases q
  | cons d r =>
    unfold bCons at q
    cases hd : β d δ with
    | none => simp [hd] at q
    | some δ1 => simp only [hd] at q; simp [h r δ1 δ' q]
theorem pgd_tup {n k : Nat} {tgs : List Expr} {vs : List Nat} {γ : BMs} (hc : X.calm = true) (h : PGsD X T tgs vs γ) (hl : lenB γ n)
    (hn : (assignEach tgs X.env).length = n := by rfl) (hst : (assignEach tgs X.env).findIdx? (·.1) = none := by rfl) : PGD X T (.Tuple tgs k pos) vs (bTup γ) := by
  obtain ⟨t, p, q⟩ := h.ex
  refine ⟨_, pg_tup hc p hn hst, fun g S σ δ δ' d v Q o s r hb k => ?_⟩
  cases r with
  | tup ds a us h1 h2 =>
    refine ⟨a, us, rfl, SqT.of (o.sub _ _ h1), ?_, q g S σ δ δ' ds us Q o s h2 hb k⟩
    rw [← h2.length]
    exact hl ds δ δ' hb
  | _ => cases hb
def asgS (f : EM) (β : BM) : SM := fun δ S => (f δ S).toS δ fun d S1 => match β d δ with
  | some δ' => .nx δ' S1
  | none => .bad
theorem psd_asg {tg : Expr} {vs : List Nat} {f : EM} {β : BM} (he : PD X T W e f) (hg : PGD X T tg vs β) (hs : swapsWithSole [tg] e pos.line X.env = pure false := by rfl) (hw : swappedStores [tg] e X.env = pure none := by rfl)
    (h1 : (assignEach [tg] X.env).map (·.2) = [assign tg X.env] := by rfl) : PSD X T W (.Assign [tg] e pos) (asgS f β) := by
  obtain ⟨t, p, q⟩ := he.ex
  obtain ⟨t2, p2, q2⟩ := hg.ex
  refine ⟨_, ps_asg p p2 hs hw h1, fun g S σ δ E o s h => ?_⟩
  refine q g S σ δ _ o s ((h.toS s).imp fun d S1 g1 e1 o1 h1 v r => ?_)
  cases hb : β d δ with
  | none => rw [hb] at h1; exact h1.elim
  | some δ' =>
    rw [hb] at h1
    exact q2 g1 S1 σ δ δ' d v _ o1 (s.ext e1) r hb fun σ' s' k => h1 g1 σ' (Ext.refl g1) o1 s'
def setS (i : Nat) (f : EM) : SM := fun δ S => (f δ S).toS δ fun d S1 => .nx (δ.set i (some d)) S1
theorem psd_set {i : Nat} {x : Str} {pos' : Pos} {f : EM} (hN : X.N.Nodup) (he : PD X T W e f) (hi : X.N[i]? = some x := by rfl) (hx : Loc X.env.scope x := by first | exact Or.inl rfl | exact Or.inr rfl)
    (hs : swapsWith e (some (.Name x pos')) pos.line X.env = pure false := by rfl)
    (hf : X.fn x = true ∨ X.env.scope.names.lookup x = some .local := by first | exact .inl rfl | exact .inr rfl | assumption) : PSD X T W (.Assign [.Name x pos'] e pos) (setS i f) := by
  obtain ⟨t, p, q⟩ := he.ex
  refine ⟨_, ps_set hN hi hx p hs hf, fun g S σ δ E o s h => ?_⟩
  exact q g S σ δ _ o s ((h.toS s).imp fun d S1 g1 e1 o1 h1 v r => h1 g1 _ (Ext.refl g1) o1 ((s.ext e1).set r i))
def parS (i j : Nat) (u : AM) : SM := fun δ S => (u δ S).toS δ fun ds S1 => match ds with
  | [d, d'] => .nx ((δ.set i (some d)).set j (some d')) S1
  | _ => .bad
theorem psd_par {i j : Nat} {x y : Str} {u : AM} {px py pt : Pos} {kt k2 : Nat} {pt2 : Pos} (hc : X.calm = true) (hN : X.N.Nodup) (ha : PAD X T W [a, b] u) (hij : i ≠ j := by decide) (hi : X.N[i]? = some x := by rfl) (hj : X.N[j]? = some y := by rfl)
    (hx : X.env.scope.names.lookup x = some .local := by rfl) (hy : X.env.scope.names.lookup y = some .local := by rfl)
    (hw : swappedStores [.Tuple [.Name x px, .Name y py] kt pt] (.Tuple [a, b] k2 pt2) X.env = pure (some [x, y]) := by rfl)
    (hs : swapsWithSole [.Tuple [.Name x px, .Name y py] kt pt] (.Tuple [a, b] k2 pt2) pos.line X.env = pure false := by rfl) :
    PSD X T W (.Assign [.Tuple [.Name x px, .Name y py] kt pt] (.Tuple [a, b] k2 pt2) pos) (parS i j u) := by
  obtain ⟨t, p, q⟩ := ha.ex
  refine ⟨_, ps_par hc hN hi hj hij hx hy p hw hs, fun g S σ δ E o s h => ?_⟩
  refine q g S σ δ _ o s ((h.toS s).imp fun ds S1 g1 e1 o1 h1 vs r => ?_)
  match ds, vs, r, h1 with
  | [d, d'], _, .cons _ v _ _ r1 (.cons _ v' _ _ r2 .nil), h1 => exact ⟨v, v', rfl, h1 g1 _ (Ext.refl g1) o1 (((s.ext e1).set r1 i).set r2 j)⟩
  | [], _, _, h1 => exact h1.elim
  | [_], _, _, h1 => exact h1.elim
  | _ :: _ :: _ :: _, _, _, h1 => exact h1.elim

/-! ### while -/
def whileD (c : TM) (f : SM) : Nat → SM
  | 0, _, _ => .bad
  | n + 1, δ, S => (c δ S).toS δ fun k S1 => if k = true then match f δ S1 with
      | .nx δ' S' => whileD c f n δ' S'
      | .ct δ' S' => whileD c f n δ' S'
      | .bk δ' S' => .nx δ' S'
      | r => r
    else .nx δ S1
theorem psd_while {c : Expr} {body : List Stmt} {k : TM} {f : SM} (n : Nat) (hp : PassesOwn (model X.prog X.w) X.A X.env X.xe) (hc : PTD X T W c k) (hb : PSsD X T W body f) : PSD X T W (.While c body [] pos) (whileD k f n) := by
  obtain ⟨tc, pc, qc⟩ := hc.ex
  obtain ⟨t, p, q⟩ := hb.ex
  refine ⟨_, ps_while hp pc p, fun g S σ δ E o s h => ?_⟩
  refine ⟨fun m σ H => ∃ g S δ, g.H = H ∧ Ok (wd X T) g S ∧ SRep (wd X T) g δ σ ∧ PostS (wd X T) W g (whileD k f m δ S) E, ⟨n, g, S, δ, rfl, o, s, h⟩, ?_⟩
  rintro m σ _ ⟨g, S, δ, rfl, o, s, h⟩
  cases m with
  | zero => exact h.elim
  | succ m =>
    refine qc g S σ δ _ o s ((h.toS s).imp fun b S1 g1 e1 o1 h1 => ?_)
    cases b with
    | false => exact h1 g1 σ (Ext.refl g1) o1 (s.ext e1)
    | true =>
      rw [if_pos rfl] at h1 ⊢
      refine ⟨fun σ' H' => ∃ g S δ, g.H = H' ∧ Ok (wd X T) g S ∧ SRep (wd X T) g δ σ' ∧ PostS (wd X T) W g (whileD k f m δ S) E, fun σ' H' z => ⟨m, Nat.lt_succ_self m, z⟩, ?_⟩
      refine q g1 S1 σ δ _ o1 (s.ext e1) ?_
      cases hf : f δ S1 with
      | nx δ' S' => rw [hf] at h1; exact fun g' σ' e' o' s' => ⟨g', S', δ', rfl, o', s', PostS.step e' h1⟩
      | ct δ' S' => rw [hf] at h1; exact fun g' σ' e' o' s' => ⟨g', S', δ', rfl, o', s', PostS.step e' h1⟩
      | bk δ' S' => rw [hf] at h1; exact h1
      | rt d S' => rw [hf] at h1; exact h1
      | ex x δ' S' => rw [hf] at h1; exact h1
      | bad => rw [hf] at h1; exact h1

/-! ### for -/
def forN (it : ItS) (β : BM) (f : SM) : Nat → Nat → SM
  | 0, i, δ, S => match it.nxt i S with
    | some none => .nx δ S
    | _ => .bad
  | n + 1, i, δ, S => match it.nxt i S with
    | some none => .nx δ S
    | some (some d) => match β d δ with
      | some δ1 => match f δ1 S with
        | .nx δ' S' => forN it β f n (i + 1) δ' S'
        | .ct δ' S' => forN it β f n (i + 1) δ' S'
        | .bk δ' S' => .nx δ' S'
        | r => r
      | none => .bad
    | none => .bad
def forS (it : EnvD → Sto → R ItS) (β : BM) (f : SM) : SM := fun δ S => (it δ S).toS δ fun J S1 => forN J β f J.size 0 δ S1
/-- over items that are known -/
def forL (β : BM) (f : SM) : List D → SM
  | [], δ, S => .nx δ S
  | d :: ds, δ, S => match β d δ with
    | some δ1 => match f δ1 S with
      | .nx δ' S' => forL β f ds δ' S'
      | .ct δ' S' => forL β f ds δ' S'
      | .bk δ' S' => .nx δ' S'
      | r => r
    | none => .bad
theorem forN_stat (ds : List D) (β : BM) (f : SM) : ∀ (n i : Nat) (δ : EnvD) (S : Sto), i + n = ds.length → forN (.stat ds) β f n i δ S = forL β f (ds.drop i) δ S
  | 0, i, δ, S, h => by
    have hi : ds.length ≤ i := by omega
    simp [forN, ItS.nxt, show ¬ ds.length < i by omega, List.getElem?_eq_none hi, List.drop_eq_nil_of_le hi, forL]
  | n + 1, i, δ, S, h => by
    have hi : i < ds.length := by omega
    rw [List.drop_eq_getElem_cons hi]
    simp only [forN, ItS.nxt, if_neg (show ¬ ds.length < i by omega), List.getElem?_eq_getElem hi, forL]
    cases β ds[i] δ with
    | none => rfl
    | some δ1 =>
      dsimp only
      cases f δ1 S with
      | nx δ' S' => exact forN_stat ds β f n (i + 1) δ' S' (by omega)
      | ct δ' S' => exact forN_stat ds β f n (i + 1) δ' S' (by omega)
      | _ => rfl
theorem forS_stat {it : EnvD → Sto → R ItS} {β : BM} {f : SM} {δ : EnvD} {S S1 : Sto} {ds : List D} (h : it δ S = .ok (.stat ds) S1) : forS it β f δ S = forL β f ds δ S1 := by
  unfold forS
  rw [h]
  show forN (.stat ds) β f ds.length 0 δ S1 = _
  rw [forN_stat ds β f ds.length 0 δ S1 (by omega), List.drop_zero]
theorem psd_for {tg iter : Expr} {body : List Stmt} {it : EnvD → Sto → R ItS} {vs : List Nat} {β : BM} {f : SM} (hp : PassesOwn (model X.prog X.w) X.A X.env X.xe) (hc : X.calm = true) (hi : PID X T W tg iter it) (hg : PGD X T tg vs β) (hb : PSsD X T W body f)
    (hs : ∀ x, foldedSetIterable iter X.env x = pure x := by intro _; rfl) : PSD X T W (.For tg iter body [] pos) (forS it β f) := by
  obtain ⟨wi, pi, qi⟩ := hi.ex
  obtain ⟨tgt, pg, qg⟩ := hg.ex
  obtain ⟨t, p, q⟩ := hb.ex
  refine ⟨_, ps_for hp hc pi pg p hs, fun g S σ δ E o s h => ?_⟩
  refine qi g S σ δ _ o s ((h.toS s).imp fun J S1 g1 e1 o1 h1 I hI => ?_)
  refine ⟨fun i m σ H => ∃ g S δ, g.H = H ∧ Ext g1 g ∧ Ok (wd X T) g S ∧ SRep (wd X T) g δ σ ∧ PostS (wd X T) W g (forN J β f m i δ S) E, ⟨J.size, g1, S1, δ, rfl, Ext.refl g1, o1, s.ext e1, h1⟩, ?_⟩
  rintro i m σ _ ⟨g, S, δ, rfl, x, o, s, h⟩
  have sv := hI i g S x.we o
  cases hn : J.nxt i S with
  | none =>
    cases m with
    | zero => simp only [forN, hn] at h; exact h.elim
    | succ m => simp only [forN, hn] at h; exact h.elim
  | some od =>
    rw [hn] at sv
    cases od with
    | none =>
      left
      refine ⟨sv, ?_⟩
      cases m with
      | zero => simp only [forN, hn] at h; exact h g σ (Ext.refl g) o s
      | succ m => simp only [forN, hn] at h; exact h g σ (Ext.refl g) o s
    | some d =>
      cases m with
      | zero => simp only [forN, hn] at h; exact h.elim
      | succ m =>
        simp only [forN, hn] at h
        right
        refine ⟨sv.1, fun σ' H' => ∃ g S δ, g.H = H' ∧ Ext g1 g ∧ Ok (wd X T) g S ∧ SRep (wd X T) g δ σ' ∧ PostS (wd X T) W g (forN J β f m (i + 1) δ S) E, fun σ' H' z => ⟨m, Nat.lt_succ_self m, z⟩, fun y H' hy => ?_⟩
        obtain ⟨g2, rfl, x2, o2, r2⟩ := sv.2 y H' hy
        cases hb : β d δ with
        | none => rw [hb] at h; exact h.elim
        | some δ1 =>
          rw [hb] at h
          dsimp only at h
          refine qg g2 S σ δ δ1 d y _ o2 (s.ext x2) r2 hb fun σ2 s2 k2 => ?_
          refine q g2 S σ2 δ1 _ o2 s2 ?_
          cases hf : f δ1 S with
          | nx δ' S' => rw [hf] at h; exact fun g' σ' e' o' s' => ⟨g', S', δ', rfl, (x.trans x2).trans e', o', s', PostS.step (x2.trans e') h⟩
          | ct δ' S' => rw [hf] at h; exact fun g' σ' e' o' s' => ⟨g', S', δ', rfl, (x.trans x2).trans e', o', s', PostS.step (x2.trans e') h⟩
          | bk δ' S' => rw [hf] at h; exact PostS.step (r := .nx δ' S') x2 h
          | rt d S' => rw [hf] at h; exact PostS.step (r := .rt d S') x2 h
          | ex z δ' S' => rw [hf] at h; exact PostS.step (r := .ex z δ' S') x2 h
          | bad => rw [hf] at h; exact h
end
end L3
set_option Elab.async false
set_option linter.all false
set_option maxRecDepth 100000
set_option maxHeartbeats 2000000
set_option autoImplicit false
namespace L3
open PySem PySem.Spec PyProof.Rows L2

/-! ### the readings that are made of a function -/
def semE (w : Wd) (W : WX) (f : EM) : TE := fun σ H Q => ∃ g S δ, g.H = H ∧ Ok w g S ∧ SRep w g δ σ ∧ Post w W σ g (f δ S) (fun d _ g' => ∀ v, Rep w g'.F g'.A d v → Q v g'.H)
def semT (w : Wd) (W : WX) (f : TM) : TT := fun σ H Q => ∃ g S δ, g.H = H ∧ Ok w g S ∧ SRep w g δ σ ∧ Post w W σ g (f δ S) (fun b _ g' => Q b g'.H)
def semG (w : Wd) (vs : List Nat) (β : BM) : TG := fun v σ H Q => ∃ g S δ δ' d, g.H = H ∧ Ok w g S ∧ SRep w g δ σ ∧ Rep w g.F g.A d v ∧ β d δ = some δ' ∧ ∀ σ', SRep w g δ' σ' → Kept vs σ σ' → Q σ' g.H
def semI (w : Wd) (W : WX) (f : EnvD → Sto → R ItS) : TI := fun σ H Q => ∃ g S δ, g.H = H ∧ Ok w g S ∧ SRep w g δ σ ∧ Post w W σ g (f δ S) (fun it _ g' => ∀ J, Serves w g' it J → Q J g'.H)
structure PTsD (X : Cx) (T : List (Addr × Str)) (W : WX) (es : List Expr) (f : TM) : Prop where
  ex : ∃ t : TT, PTs X es t ∧ ∀ (g : G) (S : Sto) (σ : L2.St) (δ : EnvD) (Q : Bool → Hp → Prop), Ok (wd X T) g S → SRep (wd X T) g δ σ →
    Post (wd X T) W σ g (f δ S) (fun b _ g' => Q b g'.H) → t σ g.H Q
section
variable {X : Cx} {T : List (Addr × Str)} {W : WX} {e : Expr} {es : List Expr}
theorem PD.pe {f : EM} (h : PD X T W e f) : PE X e (semE (wd X T) W f) := by
  obtain ⟨t, p, q⟩ := h.ex
  refine ⟨fun pins s σ H Q I hw => ?_⟩
  obtain ⟨g, S, δ, rfl, o, sr, h⟩ := hw
  exact p.run pins s σ g.H Q I (q g S σ δ Q o sr h)
theorem PTsD.pt {f : TM} (h : PTsD X T W es f) : PTs X es (semT (wd X T) W f) := by
  obtain ⟨t, p, q⟩ := h.ex
  refine ⟨fun pins s σ H Q I hw => ?_⟩
  obtain ⟨g, S, δ, rfl, o, sr, h⟩ := hw
  exact p.run pins s σ g.H Q I (q g S σ δ Q o sr h)
theorem PGD.pg {vs : List Nat} {β : BM} (h : PGD X T e vs β) : PG X e (semG (wd X T) vs β) := by
  obtain ⟨t, p, q⟩ := h.ex
  refine ⟨fun pins s σ H v u Q I r hw => ?_⟩
  obtain ⟨g, S, δ, δ', d, rfl, o, sr, rd, hb, k⟩ := hw
  exact p.run pins s σ g.H v u Q I r (q g S σ δ δ' d v Q o sr rd hb k)
theorem PID.pi {tg : Expr} {f : EnvD → Sto → R ItS} (h : PID X T W tg e f) : PI X tg e (semI (wd X T) W f) := by
  obtain ⟨t, p, q⟩ := h.ex
  refine ⟨fun pins s σ H Q I hw => ?_⟩
  obtain ⟨g, S, δ, rfl, o, sr, h⟩ := hw
  exact p.run pins s σ g.H Q I (q g S σ δ Q o sr h)
def yesT : TM := fun _ S => .ok true S
theorem ptsd_nil : PTsD X T W [] yesT := ⟨_, pts_nil, fun g S σ δ Q o s h => h.here o⟩
theorem ptsd_one {f : TM} (h : PTD X T W e f) : PTsD X T W [e] f := by
  obtain ⟨t, p, q⟩ := h.ex
  exact ⟨_, pts_one p, q⟩
end

/-! ### comprehensions -/
def noX {α : Type} (r : R α) : R α := match r with
  | .exc _ _ => .bad
  | r => r
@[simp] theorem noX_ok {α : Type} (a : α) (S : Sto) : noX (.ok a S) = .ok a S := id rfl
theorem Post.noX {α : Type} {w : Wd} {W : WX} {σ σ' : L2.St} {g : G} {r : R α} {k : α → Sto → G → Prop} (h : Post w W σ g (noX r) k) (W' : WX) : Post w W' σ' g r k := by
  cases r with
  | ok a S => exact h
  | exc e S => exact h.elim
  | bad => exact h
def W0 : WX := fun _ _ _ _ => False
def wipeD (δ : EnvD) : List Nat → EnvD
  | [] => δ
  | v :: vs => (wipeD δ vs).set v none
theorem SRep.wipe {w : Wd} {g : G} {δ : EnvD} {σ : L2.St} (s : SRep w g δ σ) : ∀ vs : List Nat, SRep w g (wipeD δ vs) (L2.wipe σ vs)
  | [] => s
  | v :: vs => (SRep.wipe s vs).forget v
def compN (it : ItS) (β : BM) (t : TM) (f : EM) : Nat → Nat → EnvD → Sto → R (List D)
  | 0, i, δ, S => match it.nxt i S with
    | some none => .ok [] S
    | _ => .bad
  | n + 1, i, δ, S => match it.nxt i S with
    | some none => .ok [] S
    | some (some d) => match β d δ with
      | some δ1 => (noX (t δ1 S)).bind fun b S1 => if b = true then (noX (f δ1 S1)).bind fun y S2 => (compN it β t f n (i + 1) δ S2).bind fun ys S3 => .ok (y :: ys) S3 else compN it β t f n (i + 1) δ S1
      | none => .bad
    | none => .bad
def compE (it : EnvD → Sto → R ItS) (own : List Nat) (β : BM) (t : TM) (f : EM) : AM := fun δ S => (it δ S).bind fun J S1 => if J.size ≤ sizeLine then compN J β t f J.size 0 (wipeD δ own) S1 else .bad
def compL (β : BM) (t : TM) (f : EM) : List D → EnvD → Sto → R (List D)
  | [], _, S => .ok [] S
  | d :: ds, δ, S => match β d δ with
    | some δ1 => (noX (t δ1 S)).bind fun b S1 => if b = true then (noX (f δ1 S1)).bind fun y S2 => (compL β t f ds δ S2).bind fun ys S3 => .ok (y :: ys) S3 else compL β t f ds δ S1
    | none => .bad
theorem compN_stat (ds : List D) (β : BM) (t : TM) (f : EM) : ∀ (n i : Nat) (δ : EnvD) (S : Sto), i + n = ds.length → compN (.stat ds) β t f n i δ S = compL β t f (ds.drop i) δ S
  | 0, i, δ, S, h => by
    have hi : ds.length ≤ i := by omega
    simp [compN, ItS.nxt, show ¬ ds.length < i by omega, List.getElem?_eq_none hi, List.drop_eq_nil_of_le hi, compL]
  | n + 1, i, δ, S, h => by
    have hi : i < ds.length := by omega
    rw [List.drop_eq_getElem_cons hi]
    simp only [compN, ItS.nxt, if_neg (show ¬ ds.length < i by omega), List.getElem?_eq_getElem hi, compL]
    cases β ds[i] δ with
    | none => rfl
    | some δ1 =>
      dsimp only
      congr 1
      funext b S1
      have ih := fun S => compN_stat ds β t f n (i + 1) δ S (by omega)
      simp only [ih]
theorem compE_stat {it : EnvD → Sto → R ItS} {own : List Nat} {β : BM} {t : TM} {f : EM} {δ : EnvD} {S S1 : Sto} {ds : List D} (h : it δ S = .ok (.stat ds) S1) (hl : ds.length ≤ sizeLine) : compE it own β t f δ S = compL β t f ds (wipeD δ own) S1 := by
  unfold compE
  rw [h]
  show (if ds.length ≤ sizeLine then compN (.stat ds) β t f ds.length 0 (wipeD δ own) S1 else .bad) = _
  rw [if_pos hl, compN_stat ds β t f ds.length 0 _ S1 (by omega), List.drop_zero]
theorem wipe_same {σ σ' : L2.St} {vs own : List Nat} (k : Kept vs σ σ') (h : ∀ i, i ∈ vs → i ∈ own) : L2.wipe σ' own = L2.wipe σ own := by
  have pt : ∀ (own : List Nat) (τ : L2.St) (j : Nat), j ∉ own → (L2.wipe τ own)[j]? = τ[j]? := fun own τ j hj => wipe_out hj
  apply List.ext_getElem?
  intro j
  by_cases hj : j ∈ own
  · have inn : ∀ (own : List Nat) (τ : L2.St), j ∈ own → (L2.wipe τ own)[j]? = if j < τ.length then some none else none := by
      intro own τ
      induction own with
      | nil => intro h; cases h
      | cons v r ih =>
        intro hm
        show ((L2.wipe τ r).set v none)[j]? = _
        by_cases e : v = j
        · subst e
          by_cases hl : v < τ.length
          · rw [if_pos hl, List.getElem?_set_self (by rw [wipe_length]; exact hl)]
          · rw [if_neg hl, List.getElem?_eq_none (by rw [List.length_set, wipe_length]; omega)]
        · rw [List.getElem?_set_ne e]
          rcases List.mem_cons.mp hm with z | z
          · exact absurd z.symm e
          · exact ih z
    rw [inn own σ' hj, inn own σ hj, k.1]
  · rw [pt own σ' j hj, pt own σ j hj]
    exact k.2 j fun z => hj (h j z)
/-- an object that is not among those told is written, seen from before it came -/
theorem Ext.out {g0 g : G} {p : Addr} {o : HO} (e : Ext g0 g) (h0 : g0.H p = none) : Ext g0 ⟨g.F, g.A, upd g.H p o⟩ := ⟨e.fr, e.ad, fun b u h n t => by
    have q : b ≠ p := ne_of_none h h0
    show upd g.H p o b = some u
    rw [upd_ne q]
    exact e.kp b u h n t, fun b h => upd_al b (e.al b h), e.nw, e.fz⟩
theorem Ok.out {w : Wd} {g : G} {S : Sto} {p : Addr} {o : HO} {vs : List V} (h : Ok w g S) (hp : g.H p = some (.lst vs)) (hA : p ∉ g.A) (hF : g.F p = none) : Ok w ⟨g.F, g.A, upd g.H p o⟩ S where
  sub := fun b u h' => by
    have e : b ≠ p := ne_of_none (H := g.F) h' hF
    show upd g.H p o b = some u
    rw [upd_ne e]
    exact h.sub b u h'
  len := h.len
  nd := h.nd
  on := fun a z => upd_al a (h.on a z)
  mo := fun k a m h1 h2 => MRep.mono (g := g) (fun _ _ q => q) ⟨[], by simp⟩ (fun u h' => by
    have e : a ≠ p := fun z => hA (z ▸ List.mem_of_getElem? h1)
    show upd g.H p o a = some u
    rw [upd_ne e]
    exact h') (h.mo k a m h1 h2)
  fr := h.fr
  tab := fun q hq => by
    obtain ⟨ps, e1, e2, e3⟩ := h.tab q hq
    have np : q.1 ≠ p := fun z => by rw [z, hp] at e1; cases e1
    refine ⟨ps, by show upd g.H p o q.1 = _; rw [upd_ne np]; exact e1, e2, fun pos cv hcv => ?_⟩
    obtain ⟨c, q1, q2⟩ := e3 pos cv hcv
    refine ⟨c, q1, ?_⟩
    have nc : c ≠ p := fun z => by rw [z, hp] at q2; cases q2
    show upd g.H p o c = _
    rw [upd_ne nc]
    exact q2
/-- an own list, not among those told, stays -/
theorem Ext.mine {g g' : G} {p : Addr} {vs : List V} (e : Ext g g') (hp : g.H p = some (.lst vs)) (hA : p ∉ g.A) (hF : g.F p = none) : g'.H p = some (.lst vs) ∧ p ∉ g'.A ∧ g'.F p = none := by
  refine ⟨e.kp p _ hp hA (fun _ z => by cases z), fun z => ?_, ?_⟩
  · have q := e.nw p z hA
    rw [hp] at q; cases q
  · cases q : g'.F p with
    | none => rfl
    | some u =>
      rcases e.fz p (by rw [q]; exact fun z => nomatch z) hF with z | z | z
      · rw [hp] at z; cases z
      · exact absurd z hA
      · exact absurd hp (z vs)
theorem none_back {g g' : G} {p : Addr} (e : Ext g g') (h : g'.H p = none) : g.H p = none := by
  cases q : g.H p with
  | none => rfl
  | some o => exact absurd h (e.al p (by rw [q]; exact fun z => nomatch z))

theorem lc_go {w : Wd} {W : WX} {it : EnvD → Sto → R ItS} {own vs : List Nat} {β : BM} {t : TM} {f : EM} (hv : ∀ i, i ∈ vs → i ∈ own) :
    QL w W (tLc (semI w W it) (semG w vs β) (semT w W0 t) (semE w W0 f) own) (compE it own β t f) := by
  intro g S σ δ Q o s h
  refine ⟨g, S, δ, rfl, o, s, (h.bind.imp fun J S1 g1 e1 o1 h1 I sv D hD => ?_)⟩
  by_cases hsz : J.size ≤ sizeLine
  · rw [if_pos hsz] at h1
    have sw := s.wipe own
    refine ⟨fun i m H => ∃ g2 S us acc, g2.H = H ∧ Ext g1 g2 ∧ Ok w g2 S ∧ H D = some (.lst us) ∧ D ∉ g2.A ∧ g2.F D = none ∧ Reps w g2.F g2.A acc us ∧ us.length ≤ i ∧ i + m = J.size ∧
      Post w W σ g1 (compN J β t f m i (wipeD δ own) S) (fun ys S' g' => ∀ vs', g'.H D = some (.lst vs') → D ∉ g'.A → g'.F D = none → Reps w g'.F g'.A (acc ++ ys) vs' → Q (.ref D) g'.H), ⟨J.size, ?_⟩, ?_⟩
    · refine ⟨g1.tmp D (.lst []), S1, [], [], rfl, Ext.tmp hD, o1.tmp hD, upd_same, o1.noA hD, o1.noF hD, .nil, Nat.le_refl _, by omega, h1.imp fun ys S' g' e' o' k vs' a1 a2 a3 a4 => ?_⟩
      exact k D vs' (none_back e1 hD) a1 a2 a3 a4
    · rintro i m _ ⟨g2, S2, us, acc, rfl, x2, o2, hp, hA, hF, r2, hlen, hm, h2⟩
      have sv2 := sv i g2 S2 x2.we o2
      cases hn : J.nxt i S2 with
      | none =>
        cases m with
        | zero => simp only [compN, hn] at h2; exact h2.elim
        | succ m => simp only [compN, hn] at h2; exact h2.elim
      | some od =>
        rw [hn] at sv2
        cases od with
        | none =>
          left
          refine ⟨sv2, ?_⟩
          have h3 : Post w W σ g1 (.ok [] S2) (fun ys S' g' => ∀ vs', g'.H D = some (.lst vs') → D ∉ g'.A → g'.F D = none → Reps w g'.F g'.A (acc ++ ys) vs' → Q (.ref D) g'.H) := by
            cases m with
            | zero => simp only [compN, hn] at h2; exact h2
            | succ m => simp only [compN, hn] at h2; exact h2
          exact h3 g2 x2 o2 us hp hA hF (by rw [List.append_nil]; exact r2)
        | some d =>
          cases m with
          | zero => simp only [compN, hn] at h2; exact h2.elim
          | succ m =>
            simp only [compN, hn] at h2
            right
            refine ⟨sv2.1, fun H' => ∃ g2 S us acc, g2.H = H' ∧ Ext g1 g2 ∧ Ok w g2 S ∧ H' D = some (.lst us) ∧ D ∉ g2.A ∧ g2.F D = none ∧ Reps w g2.F g2.A acc us ∧ us.length ≤ i + 1 ∧ i + 1 + m = J.size ∧
              Post w W σ g1 (compN J β t f m (i + 1) (wipeD δ own) S) (fun ys S' g' => ∀ vs', g'.H D = some (.lst vs') → D ∉ g'.A → g'.F D = none → Reps w g'.F g'.A (acc ++ ys) vs' → Q (.ref D) g'.H), fun H' z => ⟨m, Nat.lt_succ_self m, z⟩, fun y H' hy => ?_⟩
            obtain ⟨g3, rfl, x3, o3, r3⟩ := sv2.2 y H' hy
            obtain ⟨hp3, hA3, hF3⟩ := x3.mine hp hA hF
            cases hb : β d (wipeD δ own) with
            | none => rw [hb] at h2; exact h2.elim
            | some δ1 =>
              rw [hb] at h2
              dsimp only at h2
              have x13 := x2.trans x3
              refine ⟨g3, S2, wipeD δ own, δ1, d, rfl, o3, sw.ext (e1.trans x13), r3, hb, fun σ3 s3 k3 => ⟨?_, ?_⟩⟩
              · rw [wipe_same k3 hv]
                exact wipe_same (vs := own) ⟨wipe_length σ own, fun j hj => wipe_out hj⟩ fun _ z => z
              · refine ⟨g3, S2, δ1, rfl, o3, s3, ((Post.step x13 h2.bindB).noX W0).imp fun b S4 g4 e4 o4 h4 => ?_⟩
                obtain ⟨hp4, hA4, hF4⟩ := e4.mine hp3 hA3 hF3
                cases b with
                | false =>
                  rw [if_neg Bool.false_ne_true] at h4 ⊢
                  exact ⟨g4, S4, us, acc, rfl, x13.trans e4, o4, hp4, hA4, hF4, (r2.ext x3).ext e4, by omega, by omega, h4⟩
                | true =>
                  rw [if_pos rfl] at h4 ⊢
                  refine ⟨g4, S4, δ1, rfl, o4, s3.ext e4, ((Post.step (x13.trans e4) h4.bindB).noX W0).imp fun z S5 g5 e5 o5 h5 v5 r5 => ?_⟩
                  obtain ⟨hp5, hA5, hF5⟩ := e5.mine hp4 hA4 hF4
                  refine ⟨us, hp5, by omega, ?_⟩
                  have x5 : Ext g1 g5 := (x13.trans e4).trans e5
                  refine ⟨⟨g5.F, g5.A, upd g5.H D (.lst (us ++ [v5]))⟩, S5, us ++ [v5], acc ++ [z], rfl, x5.out hD, o5.out hp5 hA5 hF5, upd_same, hA5, hF5, (((r2.ext x3).ext e4).ext e5).append (.one r5), by simp; omega, by omega, ?_⟩
                  cases hc : compN J β t f m (i + 1) (wipeD δ own) S5 with
                  | bad => rw [hc] at h5; exact h5.elim
                  | exc q Sq => rw [hc] at h5; exact h5
                  | ok ys Sy =>
                    rw [hc] at h5
                    intro g' e' o' vs' a1 a2 a3 a4
                    exact h5 g' e' o' vs' a1 a2 a3 (by rw [List.append_assoc] at a4; exact a4)
  · rw [if_neg hsz] at h1
    exact h1.elim

def comp2N (J : ItS) (β : BM) (t : TM) (it1 : EnvD → Sto → R ItS) (vs1 : List Nat) (β1 : BM) (t1 : TM) (f : EM) : Nat → Nat → EnvD → Sto → R (List D)
  | 0, i, δ, S => match J.nxt i S with
    | some none => .ok [] S
    | _ => .bad
  | n + 1, i, δ, S => match J.nxt i S with
    | some none => .ok [] S
    | some (some d) => match β d δ with
      | some δ1 => (noX (t δ1 S)).bind fun b S1 => if b = true then (noX (it1 δ1 S1)).bind fun J1 S2 => if J1.size ≤ 4096 then (compN J1 β1 t1 f J1.size 0 (wipeD δ1 vs1) S2).bind fun ys S3 => (comp2N J β t it1 vs1 β1 t1 f n (i + 1) δ S3).bind fun zs S4 => .ok (ys ++ zs) S4 else .bad
        else comp2N J β t it1 vs1 β1 t1 f n (i + 1) δ S1
      | none => .bad
    | none => .bad
def comp2E (it : EnvD → Sto → R ItS) (own : List Nat) (β : BM) (t : TM) (it1 : EnvD → Sto → R ItS) (vs1 : List Nat) (β1 : BM) (t1 : TM) (f : EM) : AM := fun δ S => (it δ S).bind fun J S1 => if J.size ≤ 4096 then comp2N J β t it1 vs1 β1 t1 f J.size 0 (wipeD δ own) S1 else .bad
def comp2L (β : BM) (t : TM) (it1 : EnvD → Sto → R ItS) (vs1 : List Nat) (β1 : BM) (t1 : TM) (f : EM) : List D → EnvD → Sto → R (List D)
  | [], _, S => .ok [] S
  | d :: ds, δ, S => match β d δ with
    | some δ1 => (noX (t δ1 S)).bind fun b S1 => if b = true then (noX (it1 δ1 S1)).bind fun J1 S2 => if J1.size ≤ 4096 then (compN J1 β1 t1 f J1.size 0 (wipeD δ1 vs1) S2).bind fun ys S3 => (comp2L β t it1 vs1 β1 t1 f ds δ S3).bind fun zs S4 => .ok (ys ++ zs) S4 else .bad
      else comp2L β t it1 vs1 β1 t1 f ds δ S1
    | none => .bad
theorem comp2N_stat (ds : List D) (β : BM) (t : TM) (it1 : EnvD → Sto → R ItS) (vs1 : List Nat) (β1 : BM) (t1 : TM) (f : EM) : ∀ (n i : Nat) (δ : EnvD) (S : Sto), i + n = ds.length → comp2N (.stat ds) β t it1 vs1 β1 t1 f n i δ S = comp2L β t it1 vs1 β1 t1 f (ds.drop i) δ S
  | 0, i, δ, S, h => by
    have hi : ds.length ≤ i := by omega
    simp [comp2N, ItS.nxt, show ¬ ds.length < i by omega, List.getElem?_eq_none hi, List.drop_eq_nil_of_le hi, comp2L]
  | n + 1, i, δ, S, h => by
    have hi : i < ds.length := by omega
    rw [List.drop_eq_getElem_cons hi]
    simp only [comp2N, ItS.nxt, if_neg (show ¬ ds.length < i by omega), List.getElem?_eq_getElem hi, comp2L]
    cases β ds[i] δ with
    | none => rfl
    | some δ1 =>
      dsimp only
      congr 1
      funext b S1
      have ih := fun S => comp2N_stat ds β t it1 vs1 β1 t1 f n (i + 1) δ S (by omega)
      simp only [ih]
theorem comp2E_stat {it : EnvD → Sto → R ItS} {own : List Nat} {β : BM} {t : TM} {it1 : EnvD → Sto → R ItS} {vs1 : List Nat} {β1 : BM} {t1 : TM} {f : EM} {δ : EnvD} {S S1 : Sto} {ds : List D} (h : it δ S = .ok (.stat ds) S1) (hl : ds.length ≤ 4096) :
    comp2E it own β t it1 vs1 β1 t1 f δ S = comp2L β t it1 vs1 β1 t1 f ds (wipeD δ own) S1 := by
  unfold comp2E
  rw [h]
  show (if ds.length ≤ 4096 then comp2N (.stat ds) β t it1 vs1 β1 t1 f ds.length 0 (wipeD δ own) S1 else .bad) = _
  rw [if_pos hl, comp2N_stat ds β t it1 vs1 β1 t1 f ds.length 0 _ S1 (by omega), List.drop_zero]
theorem lc2_go {w : Wd} {W : WX} {it it1 : EnvD → Sto → R ItS} {own vs vs1 us1 : List Nat} {β β1 : BM} {t t1 : TM} {f : EM} (hv : ∀ i, i ∈ vs → i ∈ own) (hv1 : ∀ i, i ∈ us1 → i ∈ vs1) :
    QL w W (tLc2 (semI w W it) (semG w vs β) (semT w W0 t) (semI w W0 it1) (semG w us1 β1) (semT w W0 t1) (semE w W0 f) own vs1) (comp2E it own β t it1 vs1 β1 t1 f) := by
  intro g S σ δ Q o s h
  refine ⟨g, S, δ, rfl, o, s, (h.bind.imp fun J S1 g1 e1 o1 h1 I sv D hD => ?_)⟩
  by_cases hsz : J.size ≤ 4096
  · rw [if_pos hsz] at h1
    have sw := s.wipe own
    have hsl : (4096 : Nat) * 4096 ≤ sizeLine := by rw [sizeLine_eq]; exact Nat.le_refl _
    refine ⟨fun i m H => ∃ g2 S us acc, g2.H = H ∧ Ext g1 g2 ∧ Ok w g2 S ∧ H D = some (.lst us) ∧ D ∉ g2.A ∧ g2.F D = none ∧ Reps w g2.F g2.A acc us ∧ us.length ≤ i * 4096 ∧ i + m = J.size ∧
      Post w W σ g1 (comp2N J β t it1 vs1 β1 t1 f m i (wipeD δ own) S) (fun ys S' g' => ∀ vs', g'.H D = some (.lst vs') → D ∉ g'.A → g'.F D = none → Reps w g'.F g'.A (acc ++ ys) vs' → Q (.ref D) g'.H), ⟨J.size, ?_⟩, ?_⟩
    · refine ⟨g1.tmp D (.lst []), S1, [], [], rfl, Ext.tmp hD, o1.tmp hD, upd_same, o1.noA hD, o1.noF hD, .nil, Nat.zero_le _, by omega, h1.imp fun ys S' g' e' o' k vs' a1 a2 a3 a4 => ?_⟩
      exact k D vs' (none_back e1 hD) a1 a2 a3 a4
    · rintro i m _ ⟨g2, S2, us, acc, rfl, x2, o2, hp, hA, hF, r2, hlen, hm, h2⟩
      have sv2 := sv i g2 S2 x2.we o2
      cases hn : J.nxt i S2 with
      | none =>
        cases m with
        | zero => simp only [comp2N, hn] at h2; exact h2.elim
        | succ m => simp only [comp2N, hn] at h2; exact h2.elim
      | some od =>
        rw [hn] at sv2
        cases od with
        | none =>
          left
          refine ⟨sv2, ?_⟩
          have h3 : Post w W σ g1 (.ok [] S2) (fun ys S' g' => ∀ vs', g'.H D = some (.lst vs') → D ∉ g'.A → g'.F D = none → Reps w g'.F g'.A (acc ++ ys) vs' → Q (.ref D) g'.H) := by
            cases m with
            | zero => simp only [comp2N, hn] at h2; exact h2
            | succ m => simp only [comp2N, hn] at h2; exact h2
          exact h3 g2 x2 o2 us hp hA hF (by rw [List.append_nil]; exact r2)
        | some d =>
          cases m with
          | zero => simp only [comp2N, hn] at h2; exact h2.elim
          | succ m =>
            simp only [comp2N, hn] at h2
            right
            have hi : i < 4096 := by omega
            refine ⟨sv2.1, fun H' => ∃ g2 S us acc, g2.H = H' ∧ Ext g1 g2 ∧ Ok w g2 S ∧ H' D = some (.lst us) ∧ D ∉ g2.A ∧ g2.F D = none ∧ Reps w g2.F g2.A acc us ∧ us.length ≤ (i + 1) * 4096 ∧ i + 1 + m = J.size ∧
              Post w W σ g1 (comp2N J β t it1 vs1 β1 t1 f m (i + 1) (wipeD δ own) S) (fun ys S' g' => ∀ vs', g'.H D = some (.lst vs') → D ∉ g'.A → g'.F D = none → Reps w g'.F g'.A (acc ++ ys) vs' → Q (.ref D) g'.H), fun H' z => ⟨m, Nat.lt_succ_self m, z⟩, fun y H' hy => ?_⟩
            obtain ⟨g3, rfl, x3, o3, r3⟩ := sv2.2 y H' hy
            obtain ⟨hp3, hA3, hF3⟩ := x3.mine hp hA hF
            cases hb : β d (wipeD δ own) with
            | none => rw [hb] at h2; exact h2.elim
            | some δ1 =>
              rw [hb] at h2
              dsimp only at h2
              have x13 := x2.trans x3
              refine ⟨g3, S2, wipeD δ own, δ1, d, rfl, o3, sw.ext (e1.trans x13), r3, hb, fun σ3 s3 k3 => ⟨?_, ?_⟩⟩
              · rw [wipe_same k3 hv]
                exact wipe_same (vs := own) ⟨wipe_length σ own, fun j hj => wipe_out hj⟩ fun _ z => z
              · refine ⟨g3, S2, δ1, rfl, o3, s3, ((Post.step x13 h2.bindB).noX W0).imp fun b S4 g4 e4 o4 h4 => ?_⟩
                obtain ⟨hp4, hA4, hF4⟩ := e4.mine hp3 hA3 hF3
                cases b with
                | false =>
                  rw [if_neg Bool.false_ne_true] at h4 ⊢
                  exact ⟨g4, S4, us, acc, rfl, x13.trans e4, o4, hp4, hA4, hF4, (r2.ext x3).ext e4, by omega, by omega, h4⟩
                | true =>
                  rw [if_pos rfl] at h4 ⊢
                  refine ⟨g4, S4, δ1, rfl, o4, s3.ext e4, ((Post.step (x13.trans e4) h4.bindB).noX W0).imp fun J1 S5 g5 e5 o5 h5 I1 sv1 => ?_⟩
                  by_cases hsz1 : J1.size ≤ 4096
                  · rw [if_pos hsz1] at h5
                    obtain ⟨hp5, hA5, hF5⟩ := e5.mine hp4 hA4 hF4
                    have x5 : Ext g1 g5 := (x13.trans e4).trans e5
                    have s5 := (s3.ext (e4.trans e5))
                    refine ⟨fun j k H => ∃ g6 S us acc, g6.H = H ∧ WExt g5 g6 ∧ Ext g1 g6 ∧ Ok w g6 S ∧ H D = some (.lst us) ∧ D ∉ g6.A ∧ g6.F D = none ∧ Reps w g6.F g6.A acc us ∧ us.length ≤ i * 4096 + j ∧ j + k = J1.size ∧
                      Post w W σ g1 (compN J1 β1 t1 f k j (wipeD δ1 vs1) S) (fun ys S3 _ => Post w W σ g1 (comp2N J β t it1 vs1 β1 t1 f m (i + 1) (wipeD δ own) S3) (fun zs S' g' => ∀ vs', g'.H D = some (.lst vs') → D ∉ g'.A → g'.F D = none → Reps w g'.F g'.A ((acc ++ ys) ++ zs) vs' → Q (.ref D) g'.H)), ⟨J1.size, ?_⟩, ?_⟩
                    · refine ⟨g5, S5, us, acc, rfl, WExt.refl g5, x5, o5, hp5, hA5, hF5, ((r2.ext x3).ext e4).ext e5, by omega, by omega, h5.bindB.imp fun ys S3 gx ex ox h6 => ?_⟩
                      cases hc : comp2N J β t it1 vs1 β1 t1 f m (i + 1) (wipeD δ own) S3 with
                      | bad => rw [hc] at h6; exact h6.elim
                      | exc q Sq => rw [hc] at h6; exact h6
                      | ok zs Sz =>
                        rw [hc] at h6
                        intro g' e' o' vs' a1 a2 a3 a4
                        exact h6 g' e' o' vs' a1 a2 a3 (by rw [List.append_assoc] at a4; exact a4)
                    · rintro j k _ ⟨g6, S6, us6, acc6, rfl, x56, x16, o6, hp6, hA6, hF6, r6, hl6, hk6, h6⟩
                      have svj := sv1 j g6 S6 x56 o6
                      cases hn1 : J1.nxt j S6 with
                      | none =>
                        cases k with
                        | zero => simp only [compN, hn1] at h6; exact h6.elim
                        | succ k => simp only [compN, hn1] at h6; exact h6.elim
                      | some od1 =>
                        rw [hn1] at svj
                        cases od1 with
                        | none =>
                          left
                          refine ⟨svj, g6, S6, us6, acc6, rfl, x16, o6, hp6, hA6, hF6, r6, by omega, by omega, ?_⟩
                          have h7 : Post w W σ g1 (.ok [] S6) (fun ys S3 _ => Post w W σ g1 (comp2N J β t it1 vs1 β1 t1 f m (i + 1) (wipeD δ own) S3) (fun zs S' g' => ∀ vs', g'.H D = some (.lst vs') → D ∉ g'.A → g'.F D = none → Reps w g'.F g'.A ((acc6 ++ ys) ++ zs) vs' → Q (.ref D) g'.H)) := by
                            cases k with
                            | zero => simp only [compN, hn1] at h6; exact h6
                            | succ k => simp only [compN, hn1] at h6; exact h6
                          have h8 := h7 g6 x16 o6
                          dsimp only at h8
                          rw [List.append_nil] at h8
                          exact h8
                        | some d1 =>
                          cases k with
                          | zero => simp only [compN, hn1] at h6; exact h6.elim
                          | succ k =>
                            simp only [compN, hn1] at h6
                            right
                            refine ⟨svj.1, fun H' => ∃ g6 S us acc, g6.H = H' ∧ WExt g5 g6 ∧ Ext g1 g6 ∧ Ok w g6 S ∧ H' D = some (.lst us) ∧ D ∉ g6.A ∧ g6.F D = none ∧ Reps w g6.F g6.A acc us ∧ us.length ≤ i * 4096 + (j + 1) ∧ j + 1 + k = J1.size ∧
                              Post w W σ g1 (compN J1 β1 t1 f k (j + 1) (wipeD δ1 vs1) S) (fun ys S3 _ => Post w W σ g1 (comp2N J β t it1 vs1 β1 t1 f m (i + 1) (wipeD δ own) S3) (fun zs S' g' => ∀ vs', g'.H D = some (.lst vs') → D ∉ g'.A → g'.F D = none → Reps w g'.F g'.A ((acc ++ ys) ++ zs) vs' → Q (.ref D) g'.H)), fun H' z => ⟨k, Nat.lt_succ_self k, z⟩, fun y1 H1 hy1 => ?_⟩
                            obtain ⟨g7, rfl, x67, o7, r7⟩ := svj.2 y1 H1 hy1
                            obtain ⟨hp7, hA7, hF7⟩ := x67.mine hp6 hA6 hF6
                            cases hb1 : β1 d1 (wipeD δ1 vs1) with
                            | none => rw [hb1] at h6; exact h6.elim
                            | some δ2 =>
                              rw [hb1] at h6
                              dsimp only at h6
                              have x17 := x16.trans x67
                              refine ⟨g7, S6, wipeD δ1 vs1, δ2, d1, rfl, o7, (s5.wipe vs1).we (x56.trans x67.we), r7, hb1, fun σ7 s7 k7 => ⟨?_, ?_⟩⟩
                              · rw [wipe_same k7 hv1]
                                exact wipe_same (vs := vs1) ⟨wipe_length σ3 vs1, fun j hj => wipe_out hj⟩ fun _ z => z
                              · refine ⟨g7, S6, δ2, rfl, o7, s7, ((Post.step x17 h6.bindB).noX W0).imp fun b S8 g8 e8 o8 h8 => ?_⟩
                                obtain ⟨hp8, hA8, hF8⟩ := e8.mine hp7 hA7 hF7
                                cases b with
                                | false =>
                                  rw [if_neg Bool.false_ne_true] at h8 ⊢
                                  exact ⟨g8, S8, us6, acc6, rfl, (x56.trans x67.we).trans e8.we, x17.trans e8, o8, hp8, hA8, hF8, (r6.ext x67).ext e8, by omega, by omega, h8⟩
                                | true =>
                                  rw [if_pos rfl] at h8 ⊢
                                  refine ⟨g8, S8, δ2, rfl, o8, s7.ext e8, ((Post.step (x17.trans e8) h8.bindB).noX W0).imp fun z S9 g9 e9 o9 h9 v9 r9 => ?_⟩
                                  obtain ⟨hp9, hA9, hF9⟩ := e9.mine hp8 hA8 hF8
                                  have x59 : WExt g5 g9 := ((x56.trans x67.we).trans e8.we).trans e9.we
                                  have x19 : Ext g1 g9 := (x17.trans e8).trans e9
                                  have hus : us6.length < sizeLine := by omega
                                  refine ⟨us6, hp9, hus, ⟨g9.F, g9.A, upd g9.H D (.lst (us6 ++ [v9]))⟩, S9, us6 ++ [v9], acc6 ++ [z], rfl, ⟨x59.fr, x59.ad⟩, x19.out hD, o9.out hp9 hA9 hF9, upd_same, hA9, hF9, (((r6.ext x67).ext e8).ext e9).append (.one r9), by simp; omega, by omega, ?_⟩
                                  cases hc : compN J1 β1 t1 f k (j + 1) (wipeD δ1 vs1) S9 with
                                  | bad => rw [hc] at h9; exact h9.elim
                                  | exc q Sq => rw [hc] at h9; exact h9
                                  | ok ys Sy =>
                                    rw [hc] at h9
                                    intro g' e' o'
                                    have h10 := h9 g' e' o'
                                    dsimp only at h10
                                    rw [show acc6 ++ z :: ys = acc6 ++ [z] ++ ys by simp] at h10
                                    exact h10
                  · rw [if_neg hsz1] at h5
                    exact h5.elim
  · rw [if_neg hsz] at h1
    exact h1.elim

section
variable {X : Cx} {T : List (Addr × Str)} {W : WX} {elt tg iter tg1 iter1 : Expr} {ifs ifs1 : List Expr} {scope : Scope} {own : List (Str × Nat)} {pos spos py : Pos} {vs us1 vs1 : List Nat} {β β1 : BM} {t t1 : TM} {f : EM} {it it1 : EnvD → Sto → R ItS} {y : Str}
theorem pld_lc (own : List (Str × Nat)) (hc : X.calm = true) (hN : X.N.Nodup) (hi : PID X T W tg iter it) (ok : BlkOk X.N X.env.scope scope own)
    (hg : ∀ (s : Shared) (H : Hp) (C : Addr) (cl : List (Str × Addr)) (fp : List Addr), PGD (X.blk s H scope (compEnvC scope cl C X.env) fp) T tg vs β)
    (ht : ∀ (s : Shared) (H : Hp) (C : Addr) (cl : List (Str × Addr)) (fp : List Addr), PTsD (X.blk s H scope (compEnvC scope cl C X.env) fp) T W0 ifs t)
    (he : ∀ (s : Shared) (H : Hp) (C : Addr) (cl : List (Str × Addr)) (fp : List Addr), PD (X.blk s H scope (compEnvC scope cl C X.env) fp) T W0 elt f)
    (hv : ∀ i, i ∈ vs → i ∈ own.map (·.2) := by decide) (hs : ∀ x, foldedSetIterable iter X.env x = pure x := by intro _; rfl) : PLD X T W (.ListComp elt [⟨tg, iter, ifs, 0⟩] scope pos) (compE it (own.map (·.2)) β t f) :=
  ⟨_, pe_lc hc hN hi.pi ok (fun s H C cl fp => (hg s H C cl fp).pg) (fun s H C cl fp => (ht s H C cl fp).pt) (fun s H C cl fp => (he s H C cl fp).pe) hs, lc_go hv⟩
theorem asg_go {w : Wd} {te : TE} {f : EM} {i : Nat} (q : QE w W te f) (g : G) (S : Sto) (σ : L2.St) (δ : EnvD) (E : Ends) (o : Ok w g S) (s : SRep w g δ σ) (h : PostS w W g (setS i f δ S) E) : tAsg te (gName i) E σ g.H :=
  q g S σ δ _ o s ((h.toS s).imp fun d S1 g1 e1 o1 h1 v r => h1 g1 _ (Ext.refl g1) o1 ((s.ext e1).set r i))
theorem psd_setLc {i : Nat} (fin : AM → EM) (hfin : ∀ (w : Wd) (te : TE) (u : AM), QL w W te u → QE w W te (fin u)) (own : List (Str × Nat)) (hc : X.calm = true) (hN : X.N.Nodup) (hi : PID X T W tg iter it) (ok : BlkOk X.N X.env.scope scope own)
    (hg : ∀ (s : Shared) (H : Hp) (C : Addr) (cl : List (Str × Addr)) (fp : List Addr), PGD (X.blk s H scope (compEnvC scope cl C X.env) fp) T tg vs β)
    (ht : ∀ (s : Shared) (H : Hp) (C : Addr) (cl : List (Str × Addr)) (fp : List Addr), PTsD (X.blk s H scope (compEnvC scope cl C X.env) fp) T W0 ifs t)
    (he : ∀ (s : Shared) (H : Hp) (C : Addr) (cl : List (Str × Addr)) (fp : List Addr), PD (X.blk s H scope (compEnvC scope cl C X.env) fp) T W0 elt f)
    (hy : X.N[i]? = some y := by rfl) (hyl : X.env.scope.names.lookup y = some .local := by rfl)
    (hsw : swapsWith (.ListComp elt [⟨tg, iter, ifs, 0⟩] scope pos) (some (.Name y py)) spos.line X.env = pure true := by exact sw_true rfl rfl rfl (by decide +kernel))
    (hv : ∀ i, i ∈ vs → i ∈ own.map (·.2) := by decide) (hs : ∀ x, foldedSetIterable iter X.env x = pure x := by intro _; rfl) :
    PSD X T W (.Assign [.Name y py] (.ListComp elt [⟨tg, iter, ifs, 0⟩] scope pos) spos) (setS i (fin (compE it (own.map (·.2)) β t f))) :=
  ⟨_, ps_setLc hc hN hy hyl hsw hi.pi ok (fun s H C cl fp => (hg s H C cl fp).pg) (fun s H C cl fp => (ht s H C cl fp).pt) (fun s H C cl fp => (he s H C cl fp).pe) hs, asg_go (hfin _ _ _ (lc_go hv))⟩
theorem pld_lc2 (own : List (Str × Nat)) (vs1 : List Nat) (hc : X.calm = true) (hN : X.N.Nodup) (hi : PID X T W tg iter it) (ok : BlkOk X.N X.env.scope scope own)
    (hg : ∀ (s : Shared) (H : Hp) (C : Addr) (cl : List (Str × Addr)) (fp : List Addr), PGD (X.blk s H scope (compEnvC scope cl C X.env) fp) T tg vs β)
    (ht : ∀ (s : Shared) (H : Hp) (C : Addr) (cl : List (Str × Addr)) (fp : List Addr), PTsD (X.blk s H scope (compEnvC scope cl C X.env) fp) T W0 ifs t)
    (hi1 : ∀ (s : Shared) (H : Hp) (C : Addr) (cl : List (Str × Addr)) (fp : List Addr), PID (X.blk s H scope (compEnvC scope cl C X.env) fp) T W0 tg1 iter1 it1)
    (hg1 : ∀ (s : Shared) (H : Hp) (C : Addr) (cl : List (Str × Addr)) (fp : List Addr), PGD (X.blk s H scope (compEnvC scope cl C X.env) fp) T tg1 us1 β1)
    (ht1 : ∀ (s : Shared) (H : Hp) (C : Addr) (cl : List (Str × Addr)) (fp : List Addr), PTsD (X.blk s H scope (compEnvC scope cl C X.env) fp) T W0 ifs1 t1)
    (he : ∀ (s : Shared) (H : Hp) (C : Addr) (cl : List (Str × Addr)) (fp : List Addr), PD (X.blk s H scope (compEnvC scope cl C X.env) fp) T W0 elt f)
    (hv : ∀ i, i ∈ vs → i ∈ own.map (·.2) := by decide) (hv1 : ∀ i, i ∈ us1 → i ∈ vs1 := by decide) (hv2 : ∀ i ∈ vs1, i ∈ own.map (·.2) := by decide)
    (hs : ∀ x, foldedSetIterable iter X.env x = pure x := by intro _; rfl) (hs1 : ∀ env x, foldedSetIterable iter1 env x = pure x := by intro _ _; rfl) :
    PLD X T W (.ListComp elt [⟨tg, iter, ifs, 0⟩, ⟨tg1, iter1, ifs1, 0⟩] scope pos) (comp2E it (own.map (·.2)) β t it1 vs1 β1 t1 f) :=
  ⟨_, pe_lc2 hc hN hi.pi ok hv2 (fun s H C cl fp => (hg s H C cl fp).pg) (fun s H C cl fp => (ht s H C cl fp).pt) (fun s H C cl fp => (hi1 s H C cl fp).pi) (fun s H C cl fp => (hg1 s H C cl fp).pg) (fun s H C cl fp => (ht1 s H C cl fp).pt) (fun s H C cl fp => (he s H C cl fp).pe) hs hs1, lc2_go hv hv1⟩
theorem psd_setLc2 {i : Nat} (fin : AM → EM) (hfin : ∀ (w : Wd) (te : TE) (u : AM), QL w W te u → QE w W te (fin u)) (own : List (Str × Nat)) (vs1 : List Nat) (hc : X.calm = true) (hN : X.N.Nodup) (hi : PID X T W tg iter it) (ok : BlkOk X.N X.env.scope scope own)
    (hg : ∀ (s : Shared) (H : Hp) (C : Addr) (cl : List (Str × Addr)) (fp : List Addr), PGD (X.blk s H scope (compEnvC scope cl C X.env) fp) T tg vs β)
    (ht : ∀ (s : Shared) (H : Hp) (C : Addr) (cl : List (Str × Addr)) (fp : List Addr), PTsD (X.blk s H scope (compEnvC scope cl C X.env) fp) T W0 ifs t)
    (hi1 : ∀ (s : Shared) (H : Hp) (C : Addr) (cl : List (Str × Addr)) (fp : List Addr), PID (X.blk s H scope (compEnvC scope cl C X.env) fp) T W0 tg1 iter1 it1)
    (hg1 : ∀ (s : Shared) (H : Hp) (C : Addr) (cl : List (Str × Addr)) (fp : List Addr), PGD (X.blk s H scope (compEnvC scope cl C X.env) fp) T tg1 us1 β1)
    (ht1 : ∀ (s : Shared) (H : Hp) (C : Addr) (cl : List (Str × Addr)) (fp : List Addr), PTsD (X.blk s H scope (compEnvC scope cl C X.env) fp) T W0 ifs1 t1)
    (he : ∀ (s : Shared) (H : Hp) (C : Addr) (cl : List (Str × Addr)) (fp : List Addr), PD (X.blk s H scope (compEnvC scope cl C X.env) fp) T W0 elt f)
    (hy : X.N[i]? = some y := by rfl) (hyl : X.env.scope.names.lookup y = some .local := by rfl)
    (hsw : swapsWith (.ListComp elt [⟨tg, iter, ifs, 0⟩, ⟨tg1, iter1, ifs1, 0⟩] scope pos) (some (.Name y py)) spos.line X.env = pure true := by exact sw_true rfl rfl rfl (by decide +kernel))
    (hv : ∀ i, i ∈ vs → i ∈ own.map (·.2) := by decide) (hv1 : ∀ i, i ∈ us1 → i ∈ vs1 := by decide) (hv2 : ∀ i ∈ vs1, i ∈ own.map (·.2) := by decide)
    (hs : ∀ x, foldedSetIterable iter X.env x = pure x := by intro _; rfl) (hs1 : ∀ env x, foldedSetIterable iter1 env x = pure x := by intro _ _; rfl) :
    PSD X T W (.Assign [.Name y py] (.ListComp elt [⟨tg, iter, ifs, 0⟩, ⟨tg1, iter1, ifs1, 0⟩] scope pos) spos) (setS i (fin (comp2E it (own.map (·.2)) β t it1 vs1 β1 t1 f))) :=
  ⟨_, ps_setLc2 hc hN hy hyl hsw hi.pi ok hv2 (fun s H C cl fp => (hg s H C cl fp).pg) (fun s H C cl fp => (ht s H C cl fp).pt) (fun s H C cl fp => (hi1 s H C cl fp).pi) (fun s H C cl fp => (hg1 s H C cl fp).pg) (fun s H C cl fp => (ht1 s H C cl fp).pt) (fun s H C cl fp => (he s H C cl fp).pe) hs hs1, asg_go (hfin _ _ _ (lc2_go hv hv1))⟩
end

/-! ### defs -/
def startD (n : Nat) (ds : List D) : EnvD := ds.map some ++ List.replicate (n - ds.length) none
/-- what a def hands back: its arguments, the store -/
abbrev FM := List D → Sto → R D
def fnD (n : Nat) (f : SM) : FM := fun ds S => match f (startD n ds) S with
  | .rt d S' => .ok d S'
  | .nx _ S' => .ok .non S'
  | .ex e _ S' => .exc e S'
  | _ => .bad
def PostF (w : Wd) (g : G) (r : R D) (Q : VK) (E : XK) : Prop :=
  match r with
  | .ok d S' => ∀ g' v, Ext g g' → Ok w g' S' → Rep w g'.F g'.A d v → Q v g'.H
  | .exc e S' => ∀ g' cls dd, Ext g g' → Ok w g' S' → XRep w g' e cls dd → E cls dd g'.H
  | .bad => False
def spD (w : Wd) (n : Nat) (f : FM) : Sp := fun vs H Q E => ∃ g ds S, g.H = H ∧ ds.length = n ∧ Ok w g S ∧ Reps w g.F g.A ds vs ∧ PostF w g (f ds S) Q E
theorem spD_len {w : Wd} {n : Nat} {f : FM} {ps : List Str} (hn : ps.length = n) : ∀ vs H Q E, spD w n f vs H Q E → vs.length = ps.length := fun vs H Q E h => by
  obtain ⟨g, ds, S, _, hl, _, r, _⟩ := h
  rw [← r.length, hl, hn]
theorem SRep.start {w : Wd} {g : G} {ds : List D} {vs : List V} {N : List Str} (r : Reps w g.F g.A ds vs) : SRep w g (startD N.length ds) (L2.start N vs) := by
  refine ⟨by simp [startD, L2.start, r.length], fun i d h => ?_⟩
  unfold startD at h
  by_cases hi : i < ds.length
  · rw [List.getElem?_append_left (by simpa using hi), List.getElem?_map] at h
    cases hd : ds[i]? with
    | none => rw [hd] at h; cases h
    | some d' =>
      rw [hd] at h
      cases h
      obtain ⟨v, h1, h2⟩ := r.get hd
      refine ⟨v, ?_, h2⟩
      unfold L2.start
      rw [List.getElem?_append_left (by rw [List.length_map, ← r.length]; exact hi), List.getElem?_map, h1]
      rfl
  · rw [List.getElem?_append_right (by simp; omega), List.getElem?_replicate] at h
    split at h <;> cases h
section
variable {P : Program} {w : World} {K : PySem.W.Frag} {mg : Str → Option Value} {base : Heap} {T : List (Addr × Str)}
/-- THE RULE: a def by its body's function -/
theorem fun_ok {x qual : Str} {st : Stmt} {f : Addr} {fd : FuncData} {N ps : List Str} {k : Nat} {u : SM} (F : Fun K x qual st f fd) (S : FnScope N ps (defScope st))
    (hb : ∀ (cdv : Value) (A : Around) (outer : List Env) (s : Shared) (H : Hp) (E : XK), Room k (A.deeper (envOfC qual (defScope st) s.heap.objs.size f cdv)) →
      PSsD (cxOf (L2.CX P w) P w K mg base N qual (defScope st) f cdv A outer s H E) T (fun cls d _ H => E cls d H) (defBody st) u) :
    FnOk P w K mg base (L2.CX P w) (k + 1) f fd ps (spD ⟨K, mg, T⟩ ps.length (fnD N.length u)) := by
  refine F.okX S (spD_len rfl) fun cdv A outer s H vs Q E hr h => ?_
  obtain ⟨t, p, q⟩ := (hb cdv A outer s H E hr).ex
  obtain ⟨g, ds, S0, rfl, hl, o, r, h⟩ := h
  refine ⟨t, p, q g S0 _ (startD N.length ds) _ o (SRep.start r) ?_⟩
  unfold fnD at h
  cases hu : u (startD N.length ds) S0 with
  | rt d S' => rw [hu] at h; exact h
  | nx δ S' => rw [hu] at h; exact fun g' σ e o' _ => h g' .non e o' .non
  | ex e δ S' => rw [hu] at h; exact fun g' σ cls dd e' o' _ xr => h g' cls dd e' o' xr
  | bk δ S' => rw [hu] at h; exact h.elim
  | ct δ S' => rw [hu] at h; exact h.elim
  | bad => rw [hu] at h; exact h.elim
end
/-! a def that keeps none of its own objects -/
mutual
def D.clo (n : Nat) : D → Bool
  | .obj k => decide (k < n)
  | .tup xs => D.cloL n xs
  | .lst xs => D.cloL n xs
  | _ => true
def D.cloL (n : Nat) : List D → Bool
  | [] => true
  | x :: xs => D.clo n x && D.cloL n xs
end
def MO.clo (n : Nat) : MO → Bool
  | .dead => true
  | .lst xs => D.cloL n xs
  | .ins _ fs => D.cloL n (fs.map (·.2))
  | .dK kvs => D.cloL n (kvs.map (·.2))
  | .dT kvs => D.cloL n (kvs.map (·.2))
def cleanR (n : Nat) (r : R D) : R D := match r with
  | .ok d S => if D.clo n d = true ∧ (S.take n).all (MO.clo n) = true ∧ n ≤ S.length then .ok d (S.take n) else .bad
  | .exc e S => if D.cloL n (e.fs.map (·.2)) = true ∧ (S.take n).all (MO.clo n) = true ∧ n ≤ S.length then .exc e (S.take n) else .bad
  | .bad => .bad
def clean (f : FM) : FM := fun ds S => cleanR S.length (f ds S)
mutual
theorem Rep.clo {w : Wd} {F : Hp} {A : List Addr} {n : Nat} : ∀ {d : D} {v : V}, Rep w F A d v → D.clo n d = true → Rep w F (A.take n) d v
  | _, _, .non, _ => .non
  | _, _, .bl b, _ => .bl b
  | _, _, .int i, _ => .int i
  | _, _, .str cs x h, _ => .str cs x h
  | _, _, .tup ds a vs h r, q => .tup ds a vs h (Reps.clo r (by unfold D.clo at q; exact q))
  | _, _, .lst ds a vs h r, q => .lst ds a vs h (Reps.clo r (by unfold D.clo at q; exact q))
  | _, _, .obj k a h, q => .obj k a (by
      unfold D.clo at q
      rw [List.getElem?_take, if_pos (of_decide_eq_true q)]
      exact h)
  | _, _, .scr ns a h, _ => .scr ns a h
  | _, _, .glb x a h, _ => .glb x a h
  | _, _, .ty n, _ => .ty n
theorem Reps.clo {w : Wd} {F : Hp} {A : List Addr} {n : Nat} : ∀ {ds : List D} {vs : List V}, Reps w F A ds vs → D.cloL n ds = true → Reps w F (A.take n) ds vs
  | _, _, .nil, _ => .nil
  | _, _, .cons d v ds vs h t, q => by
    unfold D.cloL at q
    rw [Bool.and_eq_true] at q
    exact .cons _ _ _ _ (Rep.clo h q.1) (Reps.clo t q.2)
end
theorem MRep.clo {w : Wd} {g : G} {a : Addr} {n : Nat} {m : MO} (h : MRep w g a m) (q : m.clo n = true) : MRep w ⟨g.F, g.A.take n, g.H⟩ a m := by
  cases m with
  | dead => trivial
  | lst ds => obtain ⟨vs, h1, h2⟩ := h; exact ⟨vs, h1, h2.clo q⟩
  | ins c fs => obtain ⟨C, dx, vs, h0, h1, h2⟩ := h; exact ⟨C, dx, vs, h0, h1, h2.clo q⟩
  | dK kvs => obtain ⟨vs, h1, h2⟩ := h; exact ⟨vs, h1, h2.clo q⟩
  | dT kvs => obtain ⟨vs, h1, h2⟩ := h; exact ⟨vs, h1, h2.clo q⟩
theorem clean_ok {w : Wd} {g g' : G} {S S' : Sto} (o : Ok w g S) (e : Ext g g') (o' : Ok w g' S') (hc : (S'.take S.length).all (MO.clo S.length) = true) (hl : S.length ≤ S'.length) : Ok w ⟨g'.F, g'.A.take S.length, g'.H⟩ (S'.take S.length) ∧ Ext g ⟨g'.F, g'.A.take S.length, g'.H⟩ := by
  have eA : g'.A.take S.length = g.A := by
    obtain ⟨m, q⟩ := e.ad
    rw [q, ← o.len, List.take_left]
  refine ⟨⟨o'.sub, by simp [o'.len], (List.take_sublist _ _).nodup o'.nd, fun a h => o'.on a (List.mem_of_mem_take h), fun k a m h1 h2 => ?_, fun k a m h1 h2 h3 => ?_, o'.tab⟩, ⟨e.fr, ⟨[], by show g'.A.take S.length = g.A ++ []; rw [eA, List.append_nil]⟩, e.kp, e.al, fun a h n => ?_, e.fz⟩⟩
  · have h1 : (g'.A.take S.length)[k]? = some a := h1
    rw [List.getElem?_take] at h1 h2
    split at h1
    · rename_i hk
      rw [if_pos hk] at h2
      refine (o'.mo k a m h1 h2).clo (List.all_eq_true.mp hc m ?_)
      exact List.mem_of_getElem? (i := k) (by rw [List.getElem?_take, if_pos hk]; exact h2)
    · cases h1
  · have h1 : (g'.A.take S.length)[k]? = some a := h1
    rw [List.getElem?_take] at h1 h2
    split at h1
    · rename_i hk
      rw [if_pos hk] at h2
      exact o'.fr k a m h1 h2 h3
    · cases h1
  · have h' : a ∈ g'.A.take S.length := h
    rw [eA] at h'
    exact absurd h' n
theorem spD_clean {w : Wd} {n : Nat} {f : FM} : ∀ vs H Q E, spD w n (clean f) vs H Q E → spD w n f vs H Q E := by
  intro vs H Q E h
  obtain ⟨g, ds, S, e, hl, o, r, h⟩ := h
  refine ⟨g, ds, S, e, hl, o, r, ?_⟩
  unfold clean at h
  cases hf : f ds S with
  | bad => rw [hf] at h; exact h
  | ok d S' =>
    rw [hf] at h
    unfold cleanR at h
    dsimp only at h
    split at h
    · rename_i hc
      obtain ⟨c1, c2, c3⟩ := hc
      intro g' v e' o' rv
      obtain ⟨o2, e2⟩ := clean_ok o e' o' c2 c3
      exact h ⟨g'.F, g'.A.take S.length, g'.H⟩ v e2 o2 (rv.clo c1)
    · exact h.elim
  | exc x S' =>
    rw [hf] at h
    unfold cleanR at h
    dsimp only at h
    split at h
    · rename_i hc
      obtain ⟨c1, c2, c3⟩ := hc
      intro g' cls dd e' o' xr
      obtain ⟨o2, e2⟩ := clean_ok o e' o' c2 c3
      refine h ⟨g'.F, g'.A.take S.length, g'.H⟩ cls dd e2 o2 ?_
      obtain ⟨C, x1, x2, x3⟩ := xr
      refine ⟨C, x1, x2, ?_⟩
      rcases x3 with x3 | ⟨x3, d, us, x4, x5, x6⟩
      · exact .inl x3
      · exact .inr ⟨x3, d, us, x4, x5, x6.clo c1⟩
    · exact h.elim
end L3
set_option Elab.async false
set_option linter.all false
set_option maxRecDepth 100000
set_option maxHeartbeats 2000000
set_option autoImplicit false
namespace L3
open PySem PySem.Spec PyProof.Rows L2

theorem hu65 {A : Around} {k : Nat} (hr : Room k A) : A.units + 65 < cLine := by have := hr.un; omega
theorem hu64 {A : Around} {k : Nat} (hr : Room k A) : A.units + 64 < cLine := by have := hr.un; omega

/-! ### calls of defs -/
theorem zip_none {α : Type} {f : Str} : ∀ {fs : List (Str × D)} {vs : List V}, fs.lookup f = none → ((fs.map (·.1)).zip vs).lookup f = none
  | [], vs, h => by simp
  | (k, d) :: r, [], h => by simp
  | (k, d) :: r, v :: vs, h => by
    rw [List.lookup_cons] at h
    show List.lookup f ((k, v) :: (r.map (·.1)).zip vs) = none
    rw [List.lookup_cons]
    cases hb : f == k with
    | true => rw [hb] at h; cases h
    | false => rw [hb] at h; exact zip_none (α := α) h
theorem zip_some {w : Wd} {F : Hp} {A : List Addr} {f : Str} {d : D} : ∀ {fs : List (Str × D)} {vs : List V}, Reps w F A (fs.map (·.2)) vs → fs.lookup f = some d → ∃ v, ((fs.map (·.1)).zip vs).lookup f = some v ∧ Rep w F A d v
  | [], vs, _, h => by cases h
  | (k, e) :: r, _, .cons _ v _ vs h1 t, h => by
    rw [List.lookup_cons] at h
    show ∃ u, List.lookup f ((k, v) :: (r.map (·.1)).zip vs) = some u ∧ _
    rw [List.lookup_cons]
    cases hb : f == k with
    | true => rw [hb] at h; cases h; exact ⟨v, rfl, h1⟩
    | false => rw [hb] at h; exact zip_some t h
def callD (φ : FM) (n : Nat) (u : AM) : EM := fun δ S => (u δ S).bind fun ds S1 => if ds.length = n then φ ds S1 else .bad
def call0D (φ : FM) : EM := fun _ S => noX (φ [] S)
theorem postF_of {w : Wd} {W : WX} {σ : L2.St} {g : G} {r : R D} {Q : VK} (h : Post w W σ g r (fun d _ g' => ∀ v, Rep w g'.F g'.A d v → Q v g'.H)) : PostF w g r Q (WE W σ) := by
  cases r with
  | ok d S => exact fun g' v e o rv => h g' e o v rv
  | exc x S => exact fun g' cls dd e o xr => h g' cls dd e o xr
  | bad => exact h
theorem postF_noX {w : Wd} {W : WX} {σ : L2.St} {g : G} {r : R D} {Q : VK} (h : Post w W σ g (noX r) (fun d _ g' => ∀ v, Rep w g'.F g'.A d v → Q v g'.H)) (E : XK) : PostF w g r Q E := by
  cases r with
  | ok d S => exact fun g' v e o rv => h g' e o v rv
  | exc x S => exact h.elim
  | bad => exact h
section
variable {X : Cx} {T : List (Addr × Str)} {W : WX} {a b c e o : Expr} {es rest : List Expr} {pos p apos pos' : Pos} {x m : Str} {k : Nat} {f C : Addr} {fd : FuncData} {ps : List Str} {φ : FM} {n : Nat} {u : AM} {fo fe : EM}
theorem pd_call (F : FnOk X.prog X.w X.K X.mg X.base (L2.CX X.prog X.w) k f fd ps (spD (wd X T) n φ)) (hr : Room k X.A) (hm : X.mg x = some (.ref f)) (hk : PySem.W.keepIn X.K (.ref f) = true) (hb : Binds X.K fd ps []) (tk : Takes X W) (ha : PAD X T W (e :: es) u)
    (hg : Gl X x := by rfl) (hdb : (x == ("__debug__" : Str)) = false := by decide) (he : starEach (e :: es) X.env = (false, eval e X.env) :: starEach es X.env := by rfl) (hpl : (backTo pos (starEach es X.env)).any (·.1) = false := by rfl) :
    PD X T W (.Call (.Name x p) (e :: es) [] pos) (callD φ n u) := by
  obtain ⟨t, pa, q⟩ := ha.ex
  refine pd_of (pe_callS F hr hg hm hk hb (fun σ => passAt tk σ) pa hdb he hpl) fun g S σ δ Q o s h => ?_
  refine q g S σ δ _ o s (h.bind.imp fun ds S1 g1 e1 o1 h1 vs r => ?_)
  by_cases hl : ds.length = n
  · rw [if_pos hl] at h1
    exact ⟨g1, ds, S1, rfl, hl, o1, r, postF_of h1⟩
  · rw [if_neg hl] at h1
    exact h1.elim
theorem pd_call0 (F : FnOk X.prog X.w X.K X.mg X.base (L2.CX X.prog X.w) k f fd ps (spD (wd X T) 0 φ)) (hr : Room k X.A) (hm : X.mg x = some (.ref f)) (hk : PySem.W.keepIn X.K (.ref f) = true) (hb : Binds X.K fd ps [])
    (hg : Gl X x := by rfl) (hdb : (x == ("__debug__" : Str)) = false := by decide) : PD X T W (.Call (.Name x p) [] [] pos) (call0D φ) := by
  refine pd_of (pe_call0 F hr hg hm hk hb .nil passL hdb) fun g S σ δ Q o s h => ?_
  exact ⟨g, [], S, rfl, rfl, o, .nil, postF_noX h _⟩
/-! methods of own classes, at the slots -/
theorem pe_methW {sp : Sp} {ta : TE} {t : TA} {pl : Sem Bool} {E : L2.St → XK} (he : PE X o ta) (c : Cls X.K C) (hm : Meth X.K C m f) (F : FnOk X.prog X.w X.K X.mg X.base (L2.CX X.prog X.w) k f fd ps sp) (hr : Room k X.A) (hb : Binds X.K fd ps []) (hx : ∀ σ, PassesAt (L2.CX X.prog X.w) X σ (E σ)) (ha : PA X (e :: es) t)
    (hst : starEach (e :: es) X.env = (false, eval e X.env) :: starEach es X.env) (hpl : (backTo pos (starEach es X.env)).any (·.1) = false)
    (ht : eval (.Call (.Attribute o m apos) (e :: es) [] pos) X.env = (do
      let ov ← eval o X.env
      standAt apos.atName
      let (f, first) ← holding [ov] (getMethod ov m pl)
      callWith pos f first (backTo pos (starEach (e :: es) X.env)) (backToKw pos (keywordEach [] X.env)))) :
    PE X (.Call (.Attribute o m apos) (e :: es) [] pos) (fun σ H Q => ta σ H fun x H1 => ∃ a dx fs, x = .ref a ∧ H1 a = some (.ins C dx fs) ∧ fs.lookup m = none ∧ t σ H1 fun vs H2 => sp (x :: vs) H2 Q (E σ)) := by
  constructor
  intro pins s σ H Q I h
  apply PySem.W.methodCall_KW (pl := pl) _ ht
  refine thn (he.run pins s σ H _ I h) fun u s1 ⟨x, H1, I1, rx, a, dx, fs, ex, ea, l, q⟩ => ?_
  subst ex
  have eu : u = Value.ref a := rx
  subst eu
  apply getmeth_ok I1 ea c hm l
  refine PySem.W.callWith_K (first := [.ref a]) (h₀ := X.base) I.ok.mod.kin hm.kp ?_ hst hpl
  refine thn (ha.run pos pins s1 σ H1 _ I1 q) fun us s2 ⟨vs, H2, I2, r, q2⟩ => ⟨I2.kIn, ?_⟩
  exact run_fnS (us := .ref a :: us) (vs := .ref a :: vs) F hr hb (hx σ) I2 (.cons rfl r) q2
theorem pe_methW0 {sp : Sp} {ta : TE} {pl : Sem Bool} {E : L2.St → XK} (he : PE X o ta) (c : Cls X.K C) (hm : Meth X.K C m f) (F : FnOk X.prog X.w X.K X.mg X.base (L2.CX X.prog X.w) k f fd ps sp) (hr : Room k X.A) (hb : Binds X.K fd ps []) (hx : ∀ σ, PassesAt (L2.CX X.prog X.w) X σ (E σ))
    (ht : eval (.Call (.Attribute o m apos) [] [] pos) X.env = (do
      let ov ← eval o X.env
      standAt apos.atName
      let (f, first) ← holding [ov] (getMethod ov m pl)
      callWith pos f first (backTo pos (starEach [] X.env)) (backToKw pos (keywordEach [] X.env)))) :
    PE X (.Call (.Attribute o m apos) [] [] pos) (fun σ H Q => ta σ H fun x H1 => ∃ a dx fs, x = .ref a ∧ H1 a = some (.ins C dx fs) ∧ fs.lookup m = none ∧ sp [x] H1 Q (E σ)) := by
  constructor
  intro pins s σ H Q I h
  apply PySem.W.methodCall_KW (pl := pl) _ ht
  refine thn (he.run pins s σ H _ I h) fun u s1 ⟨x, H1, I1, rx, a, dx, fs, ex, ea, l, q⟩ => ?_
  subst ex
  have eu : u = Value.ref a := rx
  subst eu
  apply getmeth_ok I1 ea c hm l
  exact PySem.W.callWith_K0 (first := [.ref a]) I1.kIn hm.kp (run_fnS (us := [.ref a]) (vs := [.ref a]) F hr hb (hx σ) I1 (.cons rfl .nil) q)
/-- the attributes of the k-th object, of the class c -/
def insOf (c : Str) (d : D) (S : Sto) : Option (List (Str × D)) := match d with
  | .obj k => match S[k]? with
    | some (.ins c' fs) => if c' = c then some fs else none
    | _ => none
  | _ => none
theorem ins_of {w : Wd} {g : G} {S : Sto} {c : Str} {C : Addr} {d : D} {v : V} {fs : List (Str × D)} (o : Ok w g S) (hc : w.mg c = some (.ref C)) (r : Rep w g.F g.A d v) (h : insOf c d S = some fs) :
    ∃ k a dx vs, d = .obj k ∧ v = .ref a ∧ g.A[k]? = some a ∧ S[k]? = some (.ins c fs) ∧ g.H a = some (.ins C dx ((fs.map (·.1)).zip vs)) ∧ Reps w g.F g.A (fs.map (·.2)) vs := by
  unfold insOf at h
  cases r with
  | obj k a hk =>
    dsimp only at h
    split at h
    · rename_i c' fs' hS
      split at h
      · rename_i e
        subst e
        cases h
        obtain ⟨C', dx, vs, h0, h1, h2⟩ := o.mo k a _ hk hS
        rw [hc] at h0
        cases h0
        exact ⟨k, a, dx, vs, rfl, rfl, hk, hS, h1, h2⟩
      · cases h
    · cases h
  | _ => cases h
def methD (c m : Str) (φ : FM) (n : Nat) (fo : EM) (u : AM) : EM := fun δ S => (fo δ S).bind fun d S1 => match insOf c d S1 with
  | some fs => if fs.lookup m = none then (u δ S1).bind fun ds S2 => if ds.length + 1 = n then φ (d :: ds) S2 else .bad else .bad
  | none => .bad
theorem pd_meth {pl : Sem Bool} {c : Str} (hc : X.mg c = some (.ref C)) (he : PD X T W o fo) (cl : Cls X.K C) (hm : Meth X.K C m f) (F : FnOk X.prog X.w X.K X.mg X.base (L2.CX X.prog X.w) k f fd ps (spD (wd X T) n φ)) (hr : Room k X.A) (hb : Binds X.K fd ps []) (tk : Takes X W) (ha : PAD X T W (e :: es) u)
    (hst : starEach (e :: es) X.env = (false, eval e X.env) :: starEach es X.env := by rfl) (hpl : (backTo pos (starEach es X.env)).any (·.1) = false := by rfl)
    (ht : eval (.Call (.Attribute o m apos) (e :: es) [] pos) X.env = (do
      let ov ← eval o X.env
      standAt apos.atName
      let (f, first) ← holding [ov] (getMethod ov m pl)
      callWith pos f first (backTo pos (starEach (e :: es) X.env)) (backToKw pos (keywordEach [] X.env))) := by rfl) :
    PD X T W (.Call (.Attribute o m apos) (e :: es) [] pos) (methD c m φ n fo u) := by
  obtain ⟨to, po, qo⟩ := he.ex
  obtain ⟨t, pa, q⟩ := ha.ex
  refine pd_of (pe_methW (E := fun σ => WE W σ) po cl hm F hr hb (fun σ => passAt tk σ) pa hst hpl ht) fun g S σ δ Q o s h => ?_
  refine qo g S σ δ _ o s (h.bind.imp fun d S1 g1 e1 o1 h1 v r => ?_)
  cases hi : insOf c d S1 with
  | none => rw [hi] at h1; exact h1.elim
  | some fs =>
    rw [hi] at h1
    dsimp only at h1
    split at h1
    · rename_i hl
      obtain ⟨k, a, dx, vs, rfl, rfl, hk, hS, h2, h3⟩ := ins_of o1 hc r hi
      refine ⟨a, dx, _, rfl, h2, zip_none (α := Unit) hl, ?_⟩
      refine q g1 S1 σ δ _ o1 (s.ext e1) (h1.bind.imp fun ds S2 g2 e2 o2 h4 us ru => ?_)
      split at h4
      · rename_i hn
        exact ⟨g2, .obj k :: ds, S2, rfl, by simpa using hn, o2, .cons _ _ _ _ (r.ext e2) ru, postF_of h4⟩
      · exact h4.elim
    · exact h1.elim
def meth0D (c m : Str) (φ : FM) (fo : EM) : EM := fun δ S => (fo δ S).bind fun d S1 => match insOf c d S1 with
  | some fs => if fs.lookup m = none then φ [d] S1 else .bad
  | none => .bad
theorem pd_meth0 {pl : Sem Bool} {c : Str} (hc : X.mg c = some (.ref C)) (he : PD X T W o fo) (cl : Cls X.K C) (hm : Meth X.K C m f) (F : FnOk X.prog X.w X.K X.mg X.base (L2.CX X.prog X.w) k f fd ps (spD (wd X T) 1 φ)) (hr : Room k X.A) (hb : Binds X.K fd ps []) (tk : Takes X W)
    (ht : eval (.Call (.Attribute o m apos) [] [] pos) X.env = (do
      let ov ← eval o X.env
      standAt apos.atName
      let (f, first) ← holding [ov] (getMethod ov m pl)
      callWith pos f first (backTo pos (starEach [] X.env)) (backToKw pos (keywordEach [] X.env))) := by rfl) :
    PD X T W (.Call (.Attribute o m apos) [] [] pos) (meth0D c m φ fo) := by
  obtain ⟨to, po, qo⟩ := he.ex
  refine pd_of (pe_methW0 (E := fun σ => WE W σ) po cl hm F hr hb (fun σ => passAt tk σ) ht) fun g S σ δ Q o s h => ?_
  refine qo g S σ δ _ o s (h.bind.imp fun d S1 g1 e1 o1 h1 v r => ?_)
  cases hi : insOf c d S1 with
  | none => rw [hi] at h1; exact h1.elim
  | some fs =>
    rw [hi] at h1
    dsimp only at h1
    split at h1
    · rename_i hl
      obtain ⟨k, a, dx, vs, rfl, rfl, hk, hS, h2, h3⟩ := ins_of o1 hc r hi
      exact ⟨a, dx, _, rfl, h2, zip_none (α := Unit) hl, g1, [.obj k], S1, rfl, rfl, o1, .one r, postF_of h1⟩
    · exact h1.elim
/-- a new instance -/
def makeD (c : Str) (φ : FM) (n : Nat) (u : AM) : EM := fun δ S => (u δ S).bind fun ds S1 => if ds.length + 1 = n then (noX (φ (.obj S1.length :: ds) (S1 ++ [.ins c []]))).bind fun d S2 => match d with
  | .non => .ok (.obj S1.length) S2
  | _ => .bad
  else .bad
theorem pd_make {c : Str} (M : Mk X.K C f) (F : FnOk X.prog X.w X.K X.mg X.base (L2.CX X.prog X.w) k f fd ps (spD (wd X T) n φ)) (hr : Room (k + 1) X.A) (hm : X.mg c = some (.ref C)) (hb : Binds X.K fd ps []) (ha : PAD X T W (e :: es) u)
    (hg : Gl X c := by rfl) (hdb : (c == ("__debug__" : Str)) = false := by decide) (he : starEach (e :: es) X.env = (false, eval e X.env) :: starEach es X.env := by rfl) (hpl : (backTo pos (starEach es X.env)).any (·.1) = false := by rfl) :
    PD X T W (.Call (.Name c p) (e :: es) [] pos) (makeD c φ n u) := by
  obtain ⟨t, pa, q⟩ := ha.ex
  refine pd_of (pe_make M F hr hg hm hb .nil passL pa hdb he hpl) fun g S σ δ Q o s h => ?_
  refine q g S σ δ _ o s (h.bind.imp fun ds S1 g1 e1 o1 h1 vs r => ?_)
  split at h1
  · rename_i hn
    intro x dx hx hdx hne
    rw [List.append_nil]
    have e2 := Ext.tmp (g := g1) (p := dx) (o := .own x) hdx
    have o2 := o1.tmp (o := .own x) hdx
    have hx2 : (g1.tmp dx (.own x)).H x = none := by
      show upd g1.H dx (.own x) x = none
      rw [upd_ne (Ne.symm hne)]
      exact hx
    have e3 := Ext.new (g := g1.tmp dx (.own x)) (p := x) (o := .ins C dx []) hx2
    have o3 := o2.new (o := .ins C dx []) hx2 (m := .ins c []) ⟨C, dx, [], hm, upd_same, .nil⟩
    refine ⟨(g1.tmp dx (.own x)).new x (.ins C dx []), .obj S1.length :: ds, S1 ++ [.ins c []], rfl, by simpa using hn, o3, .cons _ _ _ _ (.obj _ x ?_) (r.ext (e2.trans e3)), ?_⟩
    · show (g1.A ++ [x])[S1.length]? = some x
      rw [List.getElem?_append_right (by rw [o1.len]; exact Nat.le_refl _), o1.len, Nat.sub_self]
      rfl
    · have h2 := Post.step (e2.trans e3) h1
      cases hf : φ (.obj S1.length :: ds) (S1 ++ [.ins c []]) with
      | bad => rw [hf] at h2; exact h2.elim
      | exc x S => rw [hf] at h2; exact h2.elim
      | ok d S2 =>
        rw [hf] at h2
        intro g' v e' o' rv
        cases d with
        | non =>
          cases rv
          refine ⟨rfl, h2 g' e' o' _ (.obj _ x ?_)⟩
          obtain ⟨mm, eA⟩ := e'.ad
          rw [eA]
          show ((g1.A ++ [x]) ++ mm)[S1.length]? = some x
          rw [List.append_assoc, List.getElem?_append_right (by rw [o1.len]; exact Nat.le_refl _), o1.len, Nat.sub_self]
          rfl
        | _ => exact h2.elim
  · exact h1.elim

/-! ### attributes -/
def fldD (c f : Str) (fo : EM) : EM := fun δ S => (fo δ S).bind fun d S1 => match insOf c d S1 with
  | some fs => match fs.lookup f with
    | some v => .ok v S1
    | none => .bad
  | none => .bad
theorem pd_fld {c fl : Str} (hc : X.mg c = some (.ref C)) (cl : Cls X.K C) (na : NoAttr X.K C fl) (he : PD X T W o fo) (hb : attributeBase o fl X.env (eval o X.env) = eval o X.env := by rfl) : PD X T W (.Attribute o fl pos) (fldD c fl fo) := by
  obtain ⟨to, po, qo⟩ := he.ex
  refine pd_of (pe_fld po hb) fun g S σ δ Q o s h => ?_
  refine qo g S σ δ _ o s (h.bind.imp fun d S1 g1 e1 o1 h1 v r => ?_)
  cases hi : insOf c d S1 with
  | none => rw [hi] at h1; exact h1.elim
  | some fs =>
    rw [hi] at h1
    dsimp only at h1
    cases hl : fs.lookup fl with
    | none => rw [hl] at h1; exact h1.elim
    | some y =>
      rw [hl] at h1
      obtain ⟨k, a, dx, vs, rfl, rfl, hk, hS, h2, h3⟩ := ins_of o1 hc r hi
      obtain ⟨v, hv, rv⟩ := zip_some h3 hl
      exact ⟨a, C, dx, _, v, rfl, h2, cl, na, hv, h1.here o1 v rv⟩
def putD (f : Str) (v : D) : List (Str × D) → List (Str × D)
  | [] => [(f, v)]
  | (g, x) :: r => if g = f then (g, v) :: r else (g, x) :: putD f v r
theorem putD_rep {w : Wd} {F : Hp} {A : List Addr} {f : Str} {d : D} {v : V} (h : Rep w F A d v) : ∀ {fs : List (Str × D)} {vs : List V}, Reps w F A (fs.map (·.2)) vs →
    ∃ us, putF f v ((fs.map (·.1)).zip vs) = ((putD f d fs).map (·.1)).zip us ∧ Reps w F A ((putD f d fs).map (·.2)) us
  | [], _, .nil => ⟨[v], rfl, .one h⟩
  | (k, e) :: r, _, .cons _ u _ vs h1 t => by
    show ∃ us, putF f v ((k, u) :: (r.map (·.1)).zip vs) = _ ∧ _
    unfold putF putD
    by_cases hk : k = f
    · rw [if_pos hk, if_pos hk]
      exact ⟨v :: vs, rfl, .cons _ _ _ _ h t⟩
    · rw [if_neg hk, if_neg hk]
      obtain ⟨us, e1, e2⟩ := putD_rep (f := f) h t
      exact ⟨u :: us, by rw [e1]; rfl, .cons _ _ _ _ h1 e2⟩
def ctlO : HO → Bool
  | .tbl _ => false
  | .ext _ => false
  | _ => true
theorem not_code {H : Hp} {a : Addr} {o : HO} (h : H a = some o) (hc : ctlO o = true) : (∀ ps, H a ≠ some (.tbl ps)) ∧ ∀ q c, H a ≠ some (LamX.CodeO c q) := by
  constructor
  · intro ps z
    rw [h] at z
    have e := Option.some.inj z
    rw [e] at hc
    cases hc
  · intro q c z
    rw [h] at z
    have e := Option.some.inj z
    rw [e] at hc
    unfold LamX.CodeO at hc
    cases hc
/-- the store where the k-th object is an instance: an attribute is put -/
def setFld (c f : Str) (d v : D) (S : Sto) : Option Sto := match d with
  | .obj k => match insOf c d S with
    | some fs => if fs.length < 1000 then some (S.set k (.ins c (putD f v fs))) else none
    | none => none
  | _ => none
theorem setFld_ok {w : Wd} {g : G} {S S' : Sto} {c f : Str} {C : Addr} {d y : D} {v vy : V} (o : Ok w g S) (hc : w.mg c = some (.ref C)) (r : Rep w g.F g.A d v) (ry : Rep w g.F g.A y vy) (h : setFld c f d y S = some S') :
    ∃ a dx fs, v = .ref a ∧ g.H a = some (.ins C dx fs) ∧ fs.length < 1000 ∧ Ok w ⟨g.F, g.A, upd g.H a (.ins C dx (putF f vy fs))⟩ S' ∧ Ext g ⟨g.F, g.A, upd g.H a (.ins C dx (putF f vy fs))⟩ := by
  unfold setFld at h
  cases d with
  | obj k =>
    dsimp only at h
    split at h
    · rename_i fs hi
      split at h
      · rename_i hl
        cases h
        obtain ⟨k', a, dx, vs, e1, rfl, hk, hS, h2, h3⟩ := ins_of o hc r hi
        cases e1
        obtain ⟨n1, n2⟩ := not_code h2 rfl
        obtain ⟨us, p1, p2⟩ := putD_rep (f := f) ry h3
        refine ⟨a, dx, _, rfl, h2, ?_, ?_, Ext.write (List.mem_of_getElem? hk)⟩
        · have := h3.length
          rw [List.length_zip, List.length_map]
          omega
        · refine o.write hk hS (fun z => nomatch z) n1 n2 ⟨C, dx, us, hc, ?_, p2⟩
          show upd g.H a _ a = _
          rw [upd_same, p1]
      · cases h
    · cases h
  | _ => cases h
def fldS (c f : Str) (fo fe : EM) : SM := fun δ S => (fe δ S).toS δ fun y S1 => (fo δ S1).toS δ fun d S2 => match setFld c f d y S2 with
  | some S3 => .nx δ S3
  | none => .bad
theorem psd_fld {c fl : Str} (hc : X.mg c = some (.ref C)) (cl : Cls X.K C) (na : NoAttr X.K C fl) (he : PD X T W o fo) (hv : PD X T W e fe) (hs : swapsWith e (some (.Attribute o fl pos')) pos.line X.env = pure false := by rfl) : PSD X T W (.Assign [.Attribute o fl pos'] e pos) (fldS c fl fo fe) := by
  obtain ⟨to, po, qo⟩ := he.ex
  obtain ⟨te, pe, qe⟩ := hv.ex
  refine ⟨_, ps_fld po pe hs, fun g S σ δ E o s h => ?_⟩
  refine qe g S σ δ _ o s ((h.toS s).imp fun y S1 g1 e1 o1 h1 vy ry => ?_)
  refine qo g1 S1 σ δ _ o1 (s.ext e1) ((h1.toS (s.ext e1)).imp fun d S2 g2 e2 o2 h2 v r => ?_)
  cases hf : setFld c fl d y S2 with
  | none => rw [hf] at h2; exact h2.elim
  | some S3 =>
    rw [hf] at h2
    obtain ⟨a, dx, fs, rfl, h3, h4, o3, e3⟩ := setFld_ok o2 hc r (ry.ext e2) hf
    exact ⟨a, C, dx, fs, rfl, h3, cl, na, h4, h2 _ σ e3 o3 (s.ext ((e1.trans e2).trans e3))⟩
end
end L3
set_option Elab.async false
set_option linter.all false
set_option maxRecDepth 100000
set_option maxHeartbeats 2000000
set_option autoImplicit false
namespace L3
open PySem PySem.Spec PyProof.Rows L2

/-! ### data as the library reads them -/
mutual
def D.py : D → Option PyData
  | .non => some .none
  | .bl b => some (.bool b)
  | .int i => some (.int i)
  | .str cs => some (.str ⟨cs.toArray⟩)
  | .tup xs => match D.pyL xs with
    | some l => some (.tuple l)
    | none => none
  | .lst xs => match D.pyL xs with
    | some l => some (.list l)
    | none => none
  | _ => none
def D.pyL : List D → Option (List PyData)
  | [] => some []
  | x :: xs => match D.py x, D.pyL xs with
    | some a, some l => some (a :: l)
    | _, _ => none
end
mutual
theorem Rep.dp {w : Wd} {F H : Hp} {A : List Addr} (hF : ∀ a o, F a = some o → H a = some o) : ∀ {d : D} {v : V} {p : PyData}, Rep w F A d v → d.py = some p → Dp w.K H v p
  | _, _, _, .non, e => by cases e; exact .non
  | _, _, _, .bl b, e => by cases e; exact .bl b
  | _, _, _, .int i, e => by cases e; exact .int i
  | _, _, _, .str cs x h, e => by
    subst h
    have q : PyData.str ⟨x.cps.toList.toArray⟩ = _ := Option.some.inj e
    rw [← q]
    exact .str x
  | _, _, _, .tup ds a vs h r, e => by
    unfold D.py at e
    split at e
    · rename_i l hl
      cases e
      exact .tup (SqT.of (hF _ _ h)) (Reps.dp hF r hl)
    · cases e
  | _, _, _, .lst ds a vs h r, e => by
    unfold D.py at e
    split at e
    · rename_i l hl
      cases e
      exact .lst (SqL.of (hF _ _ h)) (Reps.dp hF r hl)
    · cases e
  | _, _, _, .obj k a h, e => by cases e
  | _, _, _, .scr ns a h, e => by cases e
  | _, _, _, .glb x a h, e => by cases e
  | _, _, _, .ty n, e => by cases e
theorem Reps.dp {w : Wd} {F H : Hp} {A : List Addr} (hF : ∀ a o, F a = some o → H a = some o) : ∀ {ds : List D} {vs : List V} {ps : List PyData}, Reps w F A ds vs → D.pyL ds = some ps → DpAll w.K H vs ps
  | _, _, _, .nil, e => by cases e; exact .nil
  | _, _, _, .cons d v ds vs h t, e => by
    unfold D.pyL at e
    split at e
    · rename_i a l ha hl
      cases e
      exact .cons (Rep.dp hF h ha) (Reps.dp hF t hl)
    · cases e
end
/-- a list that is read: still, or the k-th object -/
def asL (d : D) (S : Sto) : Option (List D) := match d with
  | .lst xs => some xs
  | .obj k => match S[k]? with
    | some (.lst xs) => some xs
    | _ => none
  | _ => none
def asT (d : D) : Option (List D) := match d with
  | .tup xs => some xs
  | _ => none
theorem lst_of {w : Wd} {g : G} {S : Sto} {d : D} {v : V} {ds : List D} (o : Ok w g S) (r : Rep w g.F g.A d v) (h : asL d S = some ds) : ∃ a vs, v = .ref a ∧ g.H a = some (.lst vs) ∧ Reps w g.F g.A ds vs := by
  unfold asL at h
  cases r with
  | lst ds' a vs h1 h2 => cases h; exact ⟨a, vs, rfl, o.sub _ _ h1, h2⟩
  | obj k a hk =>
    dsimp only at h
    split at h
    · rename_i xs hS
      cases h
      obtain ⟨vs, h1, h2⟩ := o.mo k a _ hk hS
      exact ⟨a, vs, rfl, h1, h2⟩
    · cases h
  | _ => cases h
theorem tup_of {w : Wd} {g : G} {S : Sto} {d : D} {v : V} {ds : List D} (o : Ok w g S) (r : Rep w g.F g.A d v) (h : asT d = some ds) : ∃ a vs, v = .ref a ∧ g.H a = some (.tup vs) ∧ Reps w g.F g.A ds vs := by
  unfold asT at h
  cases r with
  | tup ds' a vs h1 h2 => cases h; exact ⟨a, vs, rfl, o.sub _ _ h1, h2⟩
  | _ => cases h
/-- as data, a changing list as it stands -/
def pyS (d : D) (S : Sto) : Option PyData := match d with
  | .obj _ => match asL d S with
    | some xs => match D.pyL xs with
      | some l => some (.list l)
      | none => none
    | none => none
  | d => d.py
theorem dp_of {w : Wd} {g : G} {S : Sto} {d : D} {v : V} {p : PyData} (o : Ok w g S) (r : Rep w g.F g.A d v) (h : pyS d S = some p) : Dp w.K g.H v p := by
  unfold pyS at h
  split at h
  · split at h
    · rename_i xs hx
      split at h
      · rename_i l hl
        cases h
        obtain ⟨a, vs, rfl, h1, h2⟩ := lst_of o r hx
        exact .lst (SqL.of h1) (h2.dp o.sub hl)
      · cases h
    · cases h
  · exact r.dp o.sub h
def orR {α : Type} (r s : R α) : R α := match r with
  | .bad => s
  | r => r
@[simp] theorem orR_ok {α : Type} (a : α) (S : Sto) (s : R α) : orR (.ok a S) s = .ok a S := id rfl
@[simp] theorem orR_bad {α : Type} (s : R α) : orR .bad s = s := id rfl
theorem Post.or {α : Type} {w : Wd} {W : WX} {σ : L2.St} {g : G} {r s : R α} {k : α → Sto → G → Prop} (h : Post w W σ g (orR r s) k) : Post w W σ g r k ∨ Post w W σ g s k := by
  cases r with
  | ok a S => exact .inl h
  | exc e S => exact .inl h
  | bad => exact .inr h

section
variable {X : Cx} {T : List (Addr × Str)} {W : WX} {a b c e : Expr} {es rest : List Expr} {pos p : Pos}
theorem OpD.or {f : Value → Value → Sem Value} {φ ψ : D → D → Sto → R D} (h : OpD X T W f φ) (h2 : OpD X T W f ψ) : OpD X T W f (fun x y S => orR (φ x y S) (ψ x y S)) := by
  obtain ⟨r, p, q⟩ := h
  obtain ⟨r2, p2, q2⟩ := h2
  refine ⟨_, p.or p2, fun g S σ x y vx vy Q o rx ry h => ?_⟩
  rcases h.or with h | h
  · exact .inl (q g S σ x y vx vy Q o rx ry h)
  · exact .inr (q2 g S σ x y vx vy Q o rx ry h)
/-! ### whole numbers -/
def intR (f : Int → Int → Option D) (x y : D) (S : Sto) : R D := match x, y with
  | .int i, .int j => match f i j with
    | some d => .ok d S
    | none => .bad
  | _, _ => .bad
theorem opd_int {f : Value → Value → Sem Value} {C : Int → Int → Prop} {gv : Int → Int → V} {h : Int → Int → Option D} (ho : OpR X f (rI C gv)) (hd : ∀ i j d, h i j = some d → C i j ∧ ∀ F A, Rep (wd X T) F A d (gv i j)) : OpD X T W f (intR h) := by
  refine ⟨_, ho, fun g S σ x y vx vy Q o rx ry hp => ?_⟩
  cases rx with
  | int i =>
    cases ry with
    | int j =>
      unfold intR at hp
      dsimp only at hp
      cases hh : h i j with
      | none => rw [hh] at hp; exact hp.elim
      | some d =>
        rw [hh] at hp
        obtain ⟨c, r⟩ := hd i j d hh
        exact ⟨i, j, rfl, rfl, c, hp.here o _ (r _ _)⟩
    | _ => exact hp.elim
  | _ => exact hp.elim
theorem opd_int0 {f : Value → Value → Sem Value} {gv : Int → Int → V} {h : Int → Int → D} (ho : OpR X f (rI0 gv)) (hd : ∀ i j F A, Rep (wd X T) F A (h i j) (gv i j)) : OpD X T W f (intR fun i j => some (h i j)) := by
  refine ⟨_, ho, fun g S σ x y vx vy Q o rx ry hp => ?_⟩
  cases rx with
  | int i =>
    cases ry with
    | int j => exact ⟨i, j, rfl, rfl, hp.here o _ (hd i j _ _)⟩
    | _ => exact hp.elim
  | _ => exact hp.elim
def addI : D → D → Sto → R D := intR fun i j => some (.int (i + j))
def subI : D → D → Sto → R D := intR fun i j => some (.int (i - j))
def mulI : D → D → Sto → R D := intR fun i j => if (-(2 ^ 64) < i ∧ i < 2 ^ 64) ∨ (-(2 ^ 64) < j ∧ j < 2 ^ 64) then some (.int (i * j)) else none
def divI : D → D → Sto → R D := intR fun i j => if 0 < j ∧ j < 1073741824 then some (.int (i / j)) else none
def modI : D → D → Sto → R D := intR fun i j => if 0 < j then some (.int (i % j)) else none
def powI : D → D → Sto → R D := intR fun i j => if 0 ≤ j ∧ j ≤ 1000000 ∧ i.natAbs < 2 ^ 64 then some (.int (i ^ j.toNat)) else none
theorem od_addI : OpD X T W (binaryOp .Add) addI := opd_int0 op_add fun _ _ _ _ => .int _
theorem od_sub : OpD X T W (binaryOp .Sub) subI := opd_int0 op_sub fun _ _ _ _ => .int _
theorem od_mulI : OpD X T W (binaryOp .Mult) mulI := opd_int op_mul fun i j d h => by
  split at h
  · rename_i c; cases h; exact ⟨c, fun _ _ => .int _⟩
  · cases h
theorem od_div : OpD X T W (binaryOp .FloorDiv) divI := opd_int op_fdiv fun i j d h => by
  split at h
  · rename_i c; cases h; exact ⟨c, fun _ _ => .int _⟩
  · cases h
theorem od_mod : OpD X T W (binaryOp .Mod) modI := opd_int op_mod fun i j d h => by
  split at h
  · rename_i c; cases h; exact ⟨c, fun _ _ => .int _⟩
  · cases h
theorem od_pow : OpD X T W (binaryOp .Pow) powI := opd_int op_pow fun i j d h => by
  split at h
  · rename_i c; cases h; exact ⟨c, fun _ _ => .int _⟩
  · cases h
def ltI : D → D → Sto → R D := intR fun i j => some (.bl (decide (i < j)))
def leI : D → D → Sto → R D := intR fun i j => some (.bl (decide (i ≤ j)))
def gtI : D → D → Sto → R D := intR fun i j => some (.bl (decide (j < i)))
def geI : D → D → Sto → R D := intR fun i j => some (.bl (decide (j ≤ i)))
theorem od_ltI : OpD X T W (compareOp .Lt) ltI := opd_int0 op_lt fun _ _ _ _ => .bl _
theorem od_leI : OpD X T W (compareOp .LtE) leI := opd_int0 op_le fun _ _ _ _ => .bl _
theorem od_gtI : OpD X T W (compareOp .Gt) gtI := opd_int0 op_gt fun _ _ _ _ => .bl _
theorem od_geI : OpD X T W (compareOp .GtE) geI := opd_int0 op_ge fun _ _ _ _ => .bl _
def negI (x : D) (S : Sto) : R D := match x with
  | .int i => .ok (.int (-i)) S
  | _ => .bad
def un1 (φ : D → Sto → R D) (f : EM) : EM := fun δ S => (f δ S).bind φ
theorem pd_neg {f : EM} (h : PD X T W a f) : PD X T W (.UnaryOp .USub a pos) (un1 negI f) := by
  obtain ⟨t, p, q⟩ := h.ex
  refine pd_of (pe_un un_neg p) fun g S σ δ Q o s h => ?_
  refine q g S σ δ _ o s (h.bind.imp fun d S1 g1 e1 o1 h1 v r => ?_)
  cases r with
  | int i => exact ⟨i, rfl, h1.here o1 _ (.int _)⟩
  | _ => exact h1.elim
/-! ### texts -/
def addS (x y : D) (S : Sto) : R D := match x, y with
  | .str a, .str b => if a.length + b.length ≤ sizeLine then .ok (.str (a ++ b)) S else .bad
  | _, _ => .bad
theorem od_addS : OpD X T W (binaryOp .Add) addS := by
  refine ⟨_, op_add_str, fun g S σ x y vx vy Q o rx ry hp => ?_⟩
  cases rx with
  | str cs x h =>
    cases ry with
    | str cs' x' h' =>
      unfold addS at hp
      dsimp only at hp
      split at hp
      · rename_i hl
        refine ⟨x, x', rfl, rfl, ?_, hp.here o _ (.str _ _ ?_)⟩
        · rw [← h, ← h'] at hl
          simpa [Str.length] using hl
        · rw [← h, ← h']
          show (x.cps ++ x'.cps).toList = _
          simp
      · exact hp.elim
    | _ => exact hp.elim
  | _ => exact hp.elim
/-- texts by their signs' numbers -/
def strC (f : List Nat → List Nat → Bool) (x y : D) (S : Sto) : R D := match x, y with
  | .str a, .str b => .ok (.bl (f a b)) S
  | _, _ => .bad
theorem od_strC {op : Value → Value → Sem Value} {f : List Nat → List Nat → Bool} (h : OpR X op (fun x y H Q => ∃ i j, x = .str i ∧ y = .str j ∧ Q (.bl (f i.cps.toList j.cps.toList)) H)) : OpD X T W op (strC f) := by
  refine ⟨_, h, fun g S σ x y vx vy Q o rx ry hp => ?_⟩
  cases rx with
  | str cs x h =>
    cases ry with
    | str cs' x' h' =>
      subst h h'
      exact ⟨x, x', rfl, rfl, hp.here o _ (.bl _)⟩
    | _ => exact hp.elim
  | _ => exact hp.elim
theorem od_ltS : OpD X T W (compareOp .Lt) (strC fun a b => decide (a < b)) := od_strC op_lt_str
theorem od_leS : OpD X T W (compareOp .LtE) (strC fun a b => !decide (b < a)) := od_strC op_le_str
/-! ### tuples -/
def addT (x y : D) (S : Sto) : R D := match x, y with
  | .tup a, .tup b => if a.length + b.length ≤ sizeLine then .ok (.tup (a ++ b)) S else .bad
  | _, _ => .bad
theorem od_addT : OpD X T W (binaryOp .Add) addT := by
  refine ⟨_, op_catA, fun g S σ x y vx vy Q o rx ry hp => ?_⟩
  unfold addT at hp
  split at hp
  · rename_i as bs
    split at hp
    · rename_i hl
      cases rx with
      | tup _ a us h1 h2 =>
        cases ry with
        | tup _ b vs k1 k2 =>
          have eu := h2.length
          have ev := k2.length
          refine ⟨a, b, us, vs, rfl, rfl, SqT.of (o.sub _ _ h1), SqT.of (o.sub _ _ k1), by omega, fun e => ?_, fun e e' => ?_, fun _ _ p hp' => ?_⟩
          · have : as = [] := List.eq_nil_of_length_eq_zero (by rw [eu, e]; rfl)
            subst this
            exact hp.here o _ (.tup _ b vs k1 k2)
          · have : bs = [] := List.eq_nil_of_length_eq_zero (by rw [ev, e']; rfl)
            subst this
            rw [List.append_nil] at hp
            exact hp.here o _ (.tup _ a us h1 h2)
          · exact hp (g.frz p (.tup (us ++ vs))) (Ext.frz o hp') (o.frz hp') _ (.tup _ p _ upd_same ((h2.append k2).ext (Ext.frz o hp')))
    · exact hp.elim
  · exact hp.elim
/-- .. of whole numbers, by < -/
def intsOf : List D → Option (List Int)
  | [] => some []
  | .int i :: r => match intsOf r with
    | some l => some (i :: l)
    | none => none
  | _ => none
@[simp] theorem intsOf_map : ∀ ns : List Int, intsOf (ns.map .int) = some ns
  | [] => rfl
  | n :: r => by simp [intsOf, intsOf_map r]
theorem intsOf_eq : ∀ {ds : List D} {ns : List Int}, intsOf ds = some ns → ds = ns.map .int
  | [], ns, h => by cases h; rfl
  | d :: r, ns, h => by
    cases d with
    | int i =>
      unfold intsOf at h
      split at h
      · rename_i l hl
        cases h
        rw [intsOf_eq hl]; rfl
      · cases h
    | _ => cases h
def ltT (x y : D) (S : Sto) : R D := match x, y with
  | .tup a, .tup b => match intsOf a, intsOf b with
    | some m, some n => .ok (.bl (HT.lexLt m n)) S
    | _, _ => .bad
  | _, _ => .bad
theorem od_ltT (hu : X.A.units + 65 < cLine) : OpD X T W (compareOp .Lt) ltT := by
  refine ⟨_, op_ltT (by omega), fun g S σ x y vx vy Q o rx ry hp => ?_⟩
  unfold ltT at hp
  split at hp
  · rename_i as bs
    split at hp
    · rename_i m n hm hn
      cases rx with
      | tup _ a us h1 h2 =>
        cases ry with
        | tup _ b vs k1 k2 =>
          rw [intsOf_eq hm] at h2
          rw [intsOf_eq hn] at k2
          have e1 := h2.ints
          have e2 := k2.ints
          subst e1 e2
          exact ⟨a, b, m, n, rfl, rfl, SqT.of (o.sub _ _ h1), SqT.of (o.sub _ _ k1), hp.here o _ (.bl _)⟩
    · exact hp.elim
  · exact hp.elim
/-! ### lists -/
def addL (x y : D) (S : Sto) : R D := match asL x S, asL y S with
  | some a, some b => if a.length + b.length ≤ sizeLine then .ok (.lst (a ++ b)) S else .bad
  | _, _ => .bad
theorem od_addL : OpD X T W (binaryOp .Add) addL := by
  refine ⟨_, op_cat, fun g S σ x y vx vy Q o rx ry hp => ?_⟩
  unfold addL at hp
  split at hp
  · rename_i as bs ha hb
    split at hp
    · rename_i hl
      obtain ⟨a, us, rfl, h1, h2⟩ := lst_of o rx ha
      obtain ⟨b, vs, rfl, k1, k2⟩ := lst_of o ry hb
      refine ⟨a, b, us, vs, rfl, rfl, h1, k1, by rw [← h2.length, ← k2.length]; exact hl, fun p hp' => ?_⟩
      exact hp (g.frz p (.lst (us ++ vs))) (Ext.frz o hp') (o.frz hp') _ (.lst _ p _ upd_same ((h2.append k2).ext (Ext.frz o hp')))
    · exact hp.elim
  · exact hp.elim
/-- the sum as a new list -/
def OpLD (X : Cx) (T : List (Addr × Str)) (W : WX) (f : Value → Value → Sem Value) (φ : D → D → Sto → R (List D)) : Prop :=
  ∃ r : R2, OpR X f r ∧ ∀ (g : G) (S : Sto) (x y : D) (vx vy : V) (Q : VK), Ok (wd X T) g S → Rep (wd X T) g.F g.A x vx → Rep (wd X T) g.F g.A y vy →
    ∀ ds, φ x y S = .ok ds S → (∀ p vs, g.H p = none → Reps (wd X T) g.F g.A ds vs → Q (.ref p) (upd g.H p (.lst vs))) → r vx vy g.H Q
def catL (x y : D) (S : Sto) : R (List D) := match asL x S, asL y S with
  | some a, some b => if a.length + b.length ≤ sizeLine then .ok (a ++ b) S else .bad
  | _, _ => .bad
theorem repsOf_rep {w : Wd} {F : Hp} {A : List Addr} {ds : List D} {vs : List V} (r : Reps w F A ds vs) : ∀ n : Nat, Reps w F A (List.replicate n ds).flatten (List.replicate n vs).flatten
  | 0 => .nil
  | n + 1 => by
    rw [List.replicate_succ, List.replicate_succ, List.flatten_cons, List.flatten_cons]
    exact r.append (repsOf_rep r n)
def mulL (x y : D) (S : Sto) : R D := match asL x S, y with
  | some a, .int k => if -(2 ^ 63) ≤ k ∧ k < 2 ^ 63 ∧ a.length * k.toNat ≤ sizeLine then .ok (.lst (List.replicate k.toNat a).flatten) S else .bad
  | _, _ => .bad
theorem od_mulL : OpD X T W (binaryOp .Mult) mulL := by
  refine ⟨_, op_rep, fun g S σ x y vx vy Q o rx ry hp => ?_⟩
  unfold mulL at hp
  split at hp
  · rename_i as k ha
    split at hp
    · rename_i hl
      obtain ⟨a, us, rfl, h1, h2⟩ := lst_of o rx ha
      cases ry
      refine ⟨a, k, us, rfl, rfl, h1, hl.1, hl.2.1, by rw [← h2.length]; exact hl.2.2, fun p hp' => ?_⟩
      exact hp (g.frz p _) (Ext.frz o hp') (o.frz hp') _ (.lst _ p _ upd_same ((repsOf_rep h2 k.toNat).ext (Ext.frz o hp')))
    · exact hp.elim
  · exact hp.elim
def mulT (x y : D) (S : Sto) : R D := match x, y with
  | .tup a, .int k => if 2 ≤ k ∧ k ≤ 1000 ∧ a.length ≤ 1000 ∧ a ≠ [] then .ok (.tup (List.replicate k.toNat a).flatten) S else .bad
  | _, _ => .bad
/-! ### == and in -/
def eqD (x y : D) (S : Sto) : R D := match pyS x S, pyS y S with
  | some a, some b => if SeqAt.shaped a = true ∧ SeqAt.shaped b = true then .ok (.bl (PyData.eqv a b)) S else .bad
  | _, _ => .bad
def neD (x y : D) (S : Sto) : R D := match pyS x S, pyS y S with
  | some a, some b => if SeqAt.shaped a = true ∧ SeqAt.shaped b = true then .ok (.bl (!PyData.eqv a b)) S else .bad
  | _, _ => .bad
theorem od_eq (hu : X.A.units + 65 < cLine) : OpD X T W (compareOp .Eq) eqD := by
  refine ⟨_, op_eqD (by omega), fun g S σ x y vx vy Q o rx ry hp => ?_⟩
  unfold eqD at hp
  split at hp
  · rename_i a b ha hb
    split at hp
    · rename_i hs
      exact ⟨a, b, dp_of o rx ha, dp_of o ry hb, hs.1, hs.2, hp.here o _ (.bl _)⟩
    · exact hp.elim
  · exact hp.elim
theorem od_ne (hu : X.A.units + 65 < cLine) : OpD X T W (compareOp .NotEq) neD := by
  refine ⟨_, op_neD (by omega), fun g S σ x y vx vy Q o rx ry hp => ?_⟩
  unfold neD at hp
  split at hp
  · rename_i a b ha hb
    split at hp
    · rename_i hs
      exact ⟨a, b, dp_of o rx ha, dp_of o ry hb, hs.1, hs.2, hp.here o _ (.bl _)⟩
    · exact hp.elim
  · exact hp.elim
/-- the items of a list or a tuple, as data -/
def pyItems (y : D) (S : Sto) : Option (List PyData) := match pyS y S with
  | some (.list l) => some l
  | some (.tuple l) => some l
  | _ => none
def inQ (neg : Bool) (x y : D) (S : Sto) : R D := match pyS x S, pyItems y S with
  | some a, some l => if SeqAt.shaped a = true ∧ SeqAt.shaped (.list l) = true then .ok (.bl (if neg then !(l.any fun z => PyData.eqv z a) else l.any fun z => PyData.eqv z a)) S else .bad
  | _, _ => .bad
theorem op_inQ (hu : X.A.units + 65 < cLine) : OpR X (compareOp .In) (fun x y H Q => ∃ d l, Dp X.K H x d ∧ (Dp X.K H y (.list l) ∨ Dp X.K H y (.tuple l)) ∧ SeqAt.shaped d = true ∧ SeqAt.shaped (.list l) = true ∧ Q (.bl (l.any fun z => PyData.eqv z d)) H) := by
  intro pins s σ H x y v u Q I rx ry h
  obtain ⟨d, l, hd, he, sd, se, q⟩ := h
  obtain ⟨as, r1⟩ := Dp.reads I d x v hd rx
  rcases he with he | he
  · obtain ⟨bs, r2⟩ := Dp.reads I (.list l) y u he ry
    exact SeqAt.in_list_reads r2 r1 (SeqAt.canLay_of_shaped se) (SeqAt.canLay_of_shaped sd) (room_in_shaped sd hu) ⟨.bl _, H, I, rfl, q⟩
  · obtain ⟨bs, r2⟩ := Dp.reads I (.tuple l) y u he ry
    exact SeqAt.in_tuple_reads r2 r1 (SeqAt.canLay_of_shaped se) (SeqAt.canLay_of_shaped sd) (room_in_shaped sd hu) ⟨.bl _, H, I, rfl, q⟩
theorem op_notInQ (hu : X.A.units + 65 < cLine) : OpR X (compareOp .NotIn) (fun x y H Q => ∃ d l, Dp X.K H x d ∧ (Dp X.K H y (.list l) ∨ Dp X.K H y (.tuple l)) ∧ SeqAt.shaped d = true ∧ SeqAt.shaped (.list l) = true ∧ Q (.bl (!(l.any fun z => PyData.eqv z d))) H) := by
  intro pins s σ H x y v u Q I rx ry h
  obtain ⟨d, l, hd, he, sd, se, q⟩ := h
  obtain ⟨as, r1⟩ := Dp.reads I d x v hd rx
  rcases he with he | he
  · obtain ⟨bs, r2⟩ := Dp.reads I (.list l) y u he ry
    exact SeqAt.notIn_list_reads r2 r1 (SeqAt.canLay_of_shaped se) (SeqAt.canLay_of_shaped sd) (room_in_shaped sd hu) ⟨.bl _, H, I, rfl, q⟩
  · obtain ⟨bs, r2⟩ := Dp.reads I (.tuple l) y u he ry
    exact SeqAt.notIn_tuple_reads r2 r1 (SeqAt.canLay_of_shaped se) (SeqAt.canLay_of_shaped sd) (room_in_shaped sd hu) ⟨.bl _, H, I, rfl, q⟩
theorem items_dp {w : Wd} {g : G} {S : Sto} {y : D} {vy : V} {l : List PyData} (o : Ok w g S) (ry : Rep w g.F g.A y vy) (h : pyItems y S = some l) : Dp w.K g.H vy (.list l) ∨ Dp w.K g.H vy (.tuple l) := by
  unfold pyItems at h
  split at h
  · rename_i l' hl; cases h; exact .inl (dp_of o ry hl)
  · rename_i l' hl; cases h; exact .inr (dp_of o ry hl)
  · cases h
theorem od_inQ (hu : X.A.units + 65 < cLine) : OpD X T W (compareOp .In) (inQ false) := by
  refine ⟨_, op_inQ hu, fun g S σ x y vx vy Q o rx ry hp => ?_⟩
  unfold inQ at hp
  split at hp
  · rename_i a l ha hl
    split at hp
    · rename_i hs
      exact ⟨a, l, dp_of o rx ha, items_dp o ry hl, hs.1, hs.2, hp.here o _ (.bl _)⟩
    · exact hp.elim
  · exact hp.elim
theorem od_notInQ (hu : X.A.units + 65 < cLine) : OpD X T W (compareOp .NotIn) (inQ true) := by
  refine ⟨_, op_notInQ hu, fun g S σ x y vx vy Q o rx ry hp => ?_⟩
  unfold inQ at hp
  split at hp
  · rename_i a l ha hl
    split at hp
    · rename_i hs
      exact ⟨a, l, dp_of o rx ha, items_dp o ry hl, hs.1, hs.2, hp.here o _ (.bl _)⟩
    · exact hp.elim
  · exact hp.elim
/-- one sign in a text -/
def inS (neg : Bool) (x y : D) (S : Sto) : R D := match x, y with
  | .str [c], .str z => .ok (.bl (if neg then !decide (c ∈ z) else decide (c ∈ z))) S
  | _, _ => .bad
theorem one_cps {x : Str} {c : Nat} (h : x.cps.toList = [c]) : x = ⟨#[c]⟩ := by
  cases x with
  | mk cps =>
    have : cps = #[c] := by
      apply Array.ext'
      exact h
    rw [this]
theorem od_inS : OpD X T W (compareOp .In) (inS false) := by
  refine ⟨_, op_in_sign, fun g S σ x y vx vy Q o rx ry hp => ?_⟩
  unfold inS at hp
  split at hp
  · rename_i c z
    cases rx with
    | str _ x h =>
      cases ry with
      | str _ y h' =>
        subst h'
        exact ⟨c, y, by rw [one_cps h], rfl, hp.here o _ (.bl _)⟩
  · exact hp.elim
theorem od_notInS : OpD X T W (compareOp .NotIn) (inS true) := by
  refine ⟨_, op_notIn_sign, fun g S σ x y vx vy Q o rx ry hp => ?_⟩
  unfold inS at hp
  split at hp
  · rename_i c z
    cases rx with
    | str _ x h =>
      cases ry with
      | str _ y h' =>
        subst h'
        exact ⟨c, y, by rw [one_cps h], rfl, hp.here o _ (.bl _)⟩
  · exact hp.elim
/-! ### is -/
def isN (neg : Bool) (x y : D) (S : Sto) : R D := match y with
  | .non => match x with
    | .non => .ok (.bl (!neg)) S
    | _ => .ok (.bl neg) S
  | _ => .bad
theorem od_isN : OpD X T W (compareOp .Is) (isN false) := by
  refine ⟨_, op_isN, fun g S σ x y vx vy Q o rx ry hp => ?_⟩
  unfold isN at hp
  cases ry with
  | non =>
    refine ⟨rfl, ?_⟩
    cases rx <;> exact hp.here o _ (.bl _)
  | _ => exact hp.elim
theorem od_notN : OpD X T W (compareOp .IsNot) (isN true) := by
  refine ⟨_, op_notN, fun g S σ x y vx vy Q o rx ry hp => ?_⟩
  unfold isN at hp
  cases ry with
  | non =>
    refine ⟨rfl, ?_⟩
    cases rx <;> exact hp.here o _ (.bl _)
  | _ => exact hp.elim
def isB (x y : D) (S : Sto) : R D := match x, y with
  | .bl a, .bl b => .ok (.bl (decide (a = b))) S
  | _, _ => .bad
theorem od_isB : OpD X T W (compareOp .Is) isB := by
  refine ⟨_, op_isBl, fun g S σ x y vx vy Q o rx ry hp => ?_⟩
  unfold isB at hp
  split at hp
  · cases rx; cases ry
    exact ⟨_, _, rfl, rfl, hp.here o _ (.bl _)⟩
  · exact hp.elim
end
end L3
set_option Elab.async false
set_option linter.all false
set_option maxRecDepth 100000
set_option maxHeartbeats 2000000
set_option autoImplicit false
/-! dicts whose keys are tuples: del, dict(pairs), sorted(d) -/
namespace L3
open PySem PySem.Spec PyProof.Rows L2

section
variable {X : Cx} {pins : List (Addr × Obj)} {σ : L2.St} {H : Hp} {s : Shared} {a b : Addr} {kvs : List (List L2.Key × V)} {k : List L2.Key} {A : Around} {E : Value → Shared → Prop}
theorem KT_dropW {H : Hp} (k : List L2.Key) : ∀ {kvs : List (List L2.Key × V)} {xs : List (List L2.Key × Addr × Value)}, KT H kvs xs → KT H (dropK kvs k) (withoutH xs k)
  | _, _, Paired.nil => Paired.nil
  | _, _, Paired.cons (a := p) (b := q) (l₁ := kvs) (l₂ := xs) h t => by
    have ih := KT_dropW k t
    unfold dropK withoutH at *
    rw [List.filter_cons, List.filter_cons]
    by_cases e : p.1 = k
    · have e' : q.1 = k := h.1.symm.trans e
      simp only [e, e', ne_eq, not_true_eq_false, decide_false, Bool.false_eq_true, if_false]
      exact ih
    · have e' : ¬ q.1 = k := fun z => e (h.1.trans z)
      simp only [e, e', ne_eq, not_false_eq_true, decide_true, if_true]
      exact .cons h ih
theorem d_delItemT {Q : Unit → Shared → Prop} (hu : A.units + 1 < cLine) (I : Inv X pins σ H s) (e : H a = some (.dT kvs)) (eb : H b = some (.tup (k.map kV))) (l : (valV kvs k).isSome = true) (h : ∀ s', Inv X pins σ (upd H a (.dT (dropK kvs k))) s' → Q () s') :
    wpAny (model X.prog X.w) A (delItem (.ref a) (.ref b)) Q E s := by
  obtain ⟨z, hd, xs, rel, dd⟩ := dt_of I.hok e
  have r := rel.val k
  cases hv : valV kvs k with
  | none => rw [hv] at l; cases l
  | some v0 =>
    obtain ⟨w', hw, rw'⟩ := RelO.some_of (v := v0) (o := (atKey xs k).map (·.2)) (by rw [← hv]; exact r)
    obtain ⟨p, hp, _⟩ := Option.map_eq_some_iff.mp hw
    have hz : xs.length ≤ sizeLine := by rw [← Paired.length rel]; exact z
    refine wpAny_delItem_heap (hsz := hz) (tupleKind_room_in1 hu) (key_of I.hok eb) hd dd hp fun h' dd' hs => h _ ?_
    obtain ⟨q, es, ep, hq, h2, h3, h4, _, h5⟩ := dd'
    refine d_write I (by rw [e]; exact True.intro) hs ⟨q, hq⟩ ⟨Nat.le_trans (dropK_le kvs k) z, hd, _, (KT_dropW k rel).keeps fun c ys ec => ?_, q, es, ep, hq, h2, h3, h4, h5⟩
    rw [upd_ne (ne_of ec e (fun z => nomatch z))]
    exact ec
end
section
variable {X : Cx} {pos tpos : Pos} {o i : Expr} {to ti : TE}
def tDelT (to ti : TE) : TS := fun D σ H => to σ H fun x H1 => ti σ H1 fun y H2 => ∃ (a b : Addr) (kvs : List (List L2.Key × V)) (k : List L2.Key), x = .ref a ∧ y = .ref b ∧ H2 a = some (.dT kvs) ∧ H2 b = some (.tup (k.map kV)) ∧ (valV kvs k).isSome = true ∧ D.nx σ (upd H2 a (.dT (dropK kvs k)))
theorem ps_delT (hu : X.A.units + 1 < cLine) (ho : PE X o to) (hi : PE X i ti) : PS X (.Delete [.Subscript o i tpos] pos) (tDelT to ti) := by
  refine ⟨fun pins s σ H D I h => ?_⟩
  refine wpAny_Delete (wpAny_deleteEach_cons (wpAny_delete_Subscript (thn (ho.run pins s σ H _ I h) fun u s1 ⟨x, H1, I1, rx, q1⟩ => thn (hi.run pins s1 σ H1 _ I1 q1) fun iv s2 ⟨y, H2, I2, ry, q2⟩ => ?_)))
  obtain ⟨a, b, kvs, k, ex, ey, hH, hB, hl, q2⟩ := q2
  subst ex
  subst ey
  cases (show u = Value.ref a from rx)
  cases (show iv = Value.ref b from ry)
  exact d_delItemT hu I2 hH hB hl fun s3 I3 => wpAny_deleteEach_nil ⟨σ, _, I3, q2⟩
end

/-! dict(xs), xs a list of pairs (tuple, value) -/
def mergeT (kvs more : List (List L2.Key × V)) : List (List L2.Key × V) := more.foldl (fun acc kv => putK acc kv.1 kv.2) kvs
theorem KT.mergeT {H : Hp} : ∀ {more : List (List L2.Key × V)} {rs : List (List L2.Key × Addr × Value)} {kvs : List (List L2.Key × V)} {xs : List (List L2.Key × Addr × Value)}, KT H more rs → KT H kvs xs → KT H (L3.mergeT kvs more) (storedAllH xs rs) := by
  intro more rs kvs xs r
  induction r generalizing kvs xs with
  | nil => intro q; exact q
  | @cons p q ps qs h t ih =>
    intro r0
    refine ih ?_
    have := r0.put p.1 h.2.1 h.2.2
    show KT H (putK kvs p.1 p.2) (storedH xs q.1 q.2.1 q.2.2)
    rw [← h.1]; exact this
theorem length_mergeT : ∀ (more kvs : List (List L2.Key × V)), (mergeT kvs more).length ≤ kvs.length + more.length
  | [], kvs => by show kvs.length ≤ kvs.length + 0; omega
  | p :: r, kvs => by
    have h1 := length_mergeT r (putK kvs p.1 p.2)
    have h2 := length_putK kvs p.1 p.2
    show (mergeT (putK kvs p.1 p.2) r).length ≤ _
    rw [List.length_cons]; omega
theorem KT.is_all {P : Program} {w : World} {H : Hp} {h : Heap} (ok : HOk P w H h) {l : List (List L2.Key × V)} {m : List (List L2.Key × Addr × Value)} (q : KT H l m) : ∀ x ∈ m, (tupleKind (mixKind P w)).is h x.1 x.2.1 := by
  induction q with
  | nil => intro x hx; exact nomatch hx
  | @cons p q ps qs hq t ih =>
    intro x hx
    rcases List.mem_cons.mp hx with e | hx
    · subst e
      exact key_of ok (by rw [← hq.1]; exact hq.2.1)
    · exact ih x hx
section
variable {X : Cx}
theorem pairsT_of {pins : List (Addr × Obj)} {σ : L2.St} {H : Hp} {s : Shared} (I : Inv X pins σ H s) : ∀ {ps : List (Addr × Addr)} {kvs : List (List L2.Key × V)}, Paired (fun p kv => SqT X.K H p.1 [V.ref p.2, kv.2] ∧ H p.2 = some (.tup (kv.1.map kV))) ps kvs →
    ∃ rs : List (List L2.Key × Addr × Value), KT H kvs rs ∧ rs.length = ps.length ∧ ∀ (j : Nat) (q : List L2.Key × Addr × Value), rs[j]? = some q → ∃ b : Addr, (ps.map (·.1))[j]? = some b ∧ s.heap.IsTuple b #[.ref q.2.1, q.2.2]
  | _, _, .nil => ⟨[], .nil, rfl, fun j q e => by simp at e⟩
  | _, _, .cons (a := p) (b := kv) h t => by
    obtain ⟨rs, r, hl, hp⟩ := pairsT_of I t
    obtain ⟨its, rv, ht, _⟩ := I.tuple h.1
    obtain ⟨u, y, ei, ru, ry⟩ := vals2 rv
    cases ru
    subst ei
    refine ⟨(kv.1, p.2, y) :: rs, .cons ⟨rfl, h.2, ry⟩ r, by rw [List.length_cons, List.length_cons, hl], fun j q e => ?_⟩
    cases j with
    | zero =>
      have e' : (kv.1, p.2, y) = q := Option.some.inj e
      subst e'
      exact ⟨p.1, rfl, ht⟩
    | succ j =>
      obtain ⟨b, e1, e2⟩ := hp j q (by simpa using e)
      exact ⟨b, by simpa using e1, e2⟩
theorem call_dictPT (hcalm : X.calm = true) (hu : X.A.units + 3 < cLine) : CallR X (.type "dict") (fun xs H Q => ∃ (a : Addr) (ps : List (Addr × Addr)) (kvs : List (List L2.Key × V)), xs = [.ref a] ∧ SqL X.K H a (ps.map fun p => V.ref p.1) ∧ Paired (fun p kv => SqT X.K H p.1 [V.ref p.2, kv.2] ∧ H p.2 = some (.tup (kv.1.map kV))) ps kvs ∧
    ∀ p, H p = none → Q (.ref p) (upd H p (.dT (mergeT [] kvs)))) := by
  intro pins s σ H xs us Q I r q
  obtain ⟨a, ps, kvs, ex, hq, hp, q⟩ := q
  subst ex
  obtain ⟨u, eu, rx⟩ := vals1 r
  subst eu
  cases rx
  obtain ⟨its, rv, pl, hz⟩ := I.list hq
  have ei : its = (ps.map (·.1)).map Value.ref := refs_at (by rw [List.map_map]; exact rv)
  rw [List.length_map] at hz
  obtain ⟨rs, rel, hl, hpr⟩ := pairsT_of I hp
  obtain ⟨o, n, ho, hc, hd, hdat⟩ := pl
  have hitem : PairItems s.heap its.toArray (fun j => (ps.map (·.1)).getD j 0) (rs.map fun x => (Value.ref x.2.1, x.2.2)) := by
    refine ⟨by simp [ei, hl], fun j kk vv hj => ?_⟩
    rw [List.getElem?_map] at hj
    cases hr : rs[j]? with
    | none => rw [hr] at hj; cases hj
    | some q =>
      rw [hr] at hj
      cases hj
      obtain ⟨b, e1, e2⟩ := hpr j q hr
      have eb : (ps.map (·.1)).getD j 0 = b := by rw [List.getD_eq_getElem?_getD, e1]; rfl
      show its.toArray[j]? = some (Value.ref ((ps.map (·.1)).getD j 0)) ∧ PairAt s.heap ((ps.map (·.1)).getD j 0) _ _
      rw [eb]
      have e1' : ((ps.map (·.1)).map Value.ref)[j]? = some (Value.ref b) := by rw [List.getElem?_map, e1]; rfl
      exact ⟨by rw [ei, ← Array.getElem?_toList]; exact e1', .inl e2⟩
  have hm : (s.heap.objs.size == sysModules) = false := beq_eq_false_iff_ne.mpr (Nat.ne_of_gt I.big)
  have hlen : (mergeT [] kvs).length ≤ sizeLine := by
    refine Nat.le_trans (length_mergeT kvs []) ?_
    rw [List.length_nil, Nat.zero_add, Paired.length rel, hl]
    exact hz
  have hN : H s.heap.objs.size = none := I.hok.fresh (Nat.le_refl _)
  refine call_dict_pairsH (knd := tupleKind (mixKind X.prog X.w)) (ps := rs) (PairArg.list (prog := X.prog) (w := X.w) a its.toArray (fun j => (ps.map (·.1)).getD j 0) (rs.map fun x => (Value.ref x.2.1, x.2.2))) (I.ok.hd hcalm) (show X.A.in1.in1.units < cLine from ?_) ⟨⟨o, n, ho, hc, hd, hdat⟩, hitem⟩ ⟨by simp, fun i key v hr => ?_⟩ (fun h' hk x hx => ?_) (by simp [hl]; exact hz) fun h' tk hd' k => ?_
  · show X.A.units + 1 + 1 < cLine
    omega
  · have hr : (rs.map fun x => (Value.ref x.2.1, x.2.2))[i]? = some (key, v) := hr
    rw [List.getElem?_map] at hr
    cases e : rs[i]? with
    | none => rw [e] at hr; cases hr
    | some y => rw [e] at hr; cases hr; exact ⟨y.1, y.2.1, rfl, rfl⟩
  · have h0 := KT.is_all I.hok rel x hx
    obtain ⟨oo, xs, nn, h1, h2, h3, h4⟩ := h0
    exact ⟨oo, xs, nn, hk _ _ (Nat.ne_of_lt (Heap.lt_size h1)) (fun z => nomatch z) h1, h2, h3, h4⟩
  · obtain ⟨q1, es, ep, hq1, h2, h3, h4, _, h5⟩ := hd'
    refine ⟨.ref s.heap.objs.size, upd H s.heap.objs.size (.dT (mergeT [] kvs)), I.laid (t' := tk) (fun b o e => k b o (fun z => nomatch z) e) (Nat.le_refl _) ⟨hlen, hm, _, ((KT.mergeT rel .nil).keeps fun c ys ec => ?_), q1, es, ep, hq1, h2, h3, h4, h5⟩, rfl, q _ hN⟩
    rw [upd_ne (ne_of_none ec hN)]
    exact ec
end

/-! sorted(d), the keys words of d ints in [0, B) -/
theorem out_refs : ∀ (vs : List Value) (as : List Addr), (∀ v ∈ vs, ∃ a ∈ as, v = Value.ref a) → ∃ L : List Addr, vs = L.map Value.ref ∧ ∀ a ∈ L, a ∈ as
  | [], _, _ => ⟨[], rfl, fun _ h => nomatch h⟩
  | v :: vs, as, h => by
    obtain ⟨a, ha, e⟩ := h v List.mem_cons_self
    obtain ⟨L, e1, h1⟩ := out_refs vs as fun u hu => h u (List.mem_cons_of_mem _ hu)
    refine ⟨a :: L, by rw [List.map_cons, e, e1], fun b hb => ?_⟩
    rcases List.mem_cons.mp hb with z | z
    · rw [z]; exact ha
    · exact h1 b z
theorem perm_refs {L M : List Addr} (h : (L.map Value.ref).Perm (M.map Value.ref)) : L.Perm M := by
  have : ∀ l : List Addr, (l.map Value.ref).map (fun v => match v with | .ref a => a | _ => 0) = l := fun l => by
    rw [List.map_map]
    induction l with
    | nil => rfl
    | cons a l ih => rw [List.map_cons, ih]; rfl
  have q := h.map (fun v => match v with | .ref a => a | _ => 0)
  rw [this, this] at q
  exact q
def vInt : V → Int
  | .int i => i
  | _ => 0
theorem vInt_map : ∀ ns : List Int, (ns.map V.int).map vInt = ns
  | [] => rfl
  | n :: ns => by rw [List.map_cons, List.map_cons, vInt_map ns]; rfl
def wordAt (o : Option HO) : List Int := match o with
  | some (.tup vs) => vs.map vInt
  | _ => []
def wordK (ns : List Int) : List L2.Key := ns.map Sum.inl
section
variable {X : Cx}
def rSortDT (d : Nat) (B : Int) : List V → Hp → VK → Prop := fun xs H Q => ∃ (a : Addr) (kvs : List (List L2.Key × V)) (ws : List (List Int)), xs = [V.ref a] ∧ H a = some (.dT kvs) ∧ kvs.map (·.1) = ws.map wordK ∧ ws.length < 64 ∧ (∀ w ∈ ws, w.length = d ∧ TS.Bd B w) ∧
  ∀ (L : List (Addr × List Int)) (p : Addr), (L.map (·.2)).Perm ws → (L.map (·.2)).Pairwise (fun m n => TS.code B m ≤ TS.code B n) → (∀ q ∈ L, H q.1 = some (.tup (q.2.map V.int))) → H p = none → Q (.ref p) (upd H p (.lst (L.map fun q => V.ref q.1)))
theorem kV_word (ns : List Int) : (wordK ns).map kV = ns.map V.int := by
  unfold wordK
  rw [List.map_map]
  rfl
theorem call_sortedDT {d : Nat} {B : Int} (hcalm : X.calm = true) (hd1 : 1 ≤ d) : CallR X (.builtin "sorted") (rSortDT d B) := by
  intro pins s σ H xs us Q I r q
  obtain ⟨a, kvs, ws, ex, hd, hks, h64, hw, q⟩ := q
  subst ex
  obtain ⟨u, eu, rx⟩ := vals1 r
  subst eu
  cases rx
  obtain ⟨z, hs, xs, pr, o, es, ep, ho, hx, hdt, he, hn⟩ := (show ObjOk X.prog X.w H s.heap a (.dT kvs) from I.hok a _ hd)
  have l1 : es.size = xs.length := size_of_entries he
  have l2 : kvs.length = xs.length := Paired.length pr
  have l3 : kvs.length = ws.length := by
    have e := congrArg List.length hks
    rw [List.length_map, List.length_map] at e
    exact e
  have h16 : es.size ≤ sizeLine := by rw [sizeLine_eq]; omega
  -- the keys by address
  have key : ∀ (j : Nat) (x : List L2.Key × Addr × Value), xs[j]? = some x → ∃ w, ws[j]? = some w ∧ H x.2.1 = some (.tup (w.map V.int)) := fun j x hj => by
    obtain ⟨p, hp, e1, e2, _⟩ := L2.DX.pget pr hj
    have e3 : (kvs.map (·.1))[j]? = some p.1 := by rw [List.getElem?_map, hp]; rfl
    rw [hks, List.getElem?_map] at e3
    cases hw : ws[j]? with
    | none => rw [hw] at e3; cases e3
    | some w =>
      rw [hw] at e3
      have e4 : wordK w = p.1 := Option.some.inj e3
      rw [← e4, kV_word] at e2
      exact ⟨w, rfl, e2⟩
  refine Calls.call_function_entry PyProof.Rows.kind_sorted PyProof.Rows.plain_sorted PyProof.Rows.entry_sorted (PyProof.Rows.args_sorted1 _) ?_
  unfold Builtin.«sorted»
  refine wpAny_bind (m := checkCount "sorted" 1 1 _) (wpAny_pure ?_)
  refine wpAny_bind (PySem.W.kdu_collect (A := X.A.in1) (kdl_raw hs hx hdt) (I.ok.hd hcalm) ho h16 fun h' tk acc hk hacc => ?_)
  have ea : acc.toList = (xs.map fun x => x.2.1).map Value.ref := by
    have hl : acc.toList.length = xs.length := by rw [Array.length_toList, hacc.1]; exact l1
    rw [List.map_map]
    apply List.ext_getElem?
    intro j
    rw [List.getElem?_map]
    cases hj : acc.toList[j]? with
    | none =>
      have h1 := List.getElem?_eq_none_iff.mp hj
      rw [List.getElem?_eq_none (by omega)]
      all_goals rfl
    | some v =>
      obtain ⟨en, hen, hv⟩ := hacc.2 j v (by rw [← Array.getElem?_toList]; exact hj)
      have qe := entry_at he j
      rw [hen] at qe
      cases hb : xs[j]? with
      | none =>
        rw [hb] at qe
        exact nomatch (show some en = none from qe)
      | some b =>
        rw [hb] at qe
        have e2 : en = entryOfKey (tupleKind (mixKind X.prog X.w)) b := Option.some.inj qe
        rw [hv, e2]
        all_goals rfl
  have hal : acc.toList.length = ws.length := by rw [ea]; simp; omega
  have I1 : Inv X pins σ H { s with heap := h', toks := tk } := I.kept hk
  refine wpAny_bind (wpAny_newList ?_ (by rw [hal, sizeLine_eq]; omega))
  have hoL : (h'.push (seqObj "list" acc.toList.toArray 0)).get? h'.objs.size = some (seqObj "list" acc.toList.toArray 0) := Heap.get?_push_size _ rfl
  show wpAny _ _ _ _ _ { s with heap := h'.push (seqObj "list" acc.toList.toArray 0), toks := tk }
  have tups : ∀ x ∈ xs, ∃ w, w ∈ ws ∧ H x.2.1 = some (.tup (w.map V.int)) ∧ TS.TupInts (h'.push (seqObj "list" acc.toList.toArray 0)) (.ref x.2.1) w := fun x hx => by
    obtain ⟨j, hj⟩ := List.getElem?_of_mem hx
    obtain ⟨w, hw, hH⟩ := key j x hj
    obtain ⟨_, its, rv, ot, h1, h2, n, h3⟩ := (show ObjOk X.prog X.w H h' x.2.1 (.tup (w.map V.int)) from I1.hok _ _ hH)
    exact ⟨w, List.mem_of_getElem? hw, hH, x.2.1, its.toArray, rfl, ⟨ot, Heap.get?_push_of_some _ h1, h2, n, h3⟩, by simpa using rv.ints⟩
  have ok : TS.TupsOk (h'.push (seqObj "list" acc.toList.toArray 0)) d B acc.toList := fun v hv => by
    rw [ea] at hv
    obtain ⟨c, hc, e⟩ := List.mem_map.mp hv
    obtain ⟨x, hx, e'⟩ := List.mem_map.mp hc
    obtain ⟨w, hw', _, ht⟩ := tups x hx
    subst e
    subst e'
    exact ⟨w, ht, (hw w hw').1, (hw w hw').2⟩
  refine wpAny_bind (wpAny_holding (TS.call_sort_tups (s := { s with heap := h'.push (seqObj "list" acc.toList.toArray 0), toks := tk }) hoL (by rw [hal]; exact h64) hd1 ok fun out a1 a2 => ?_))
  obtain ⟨c, hc⟩ := PyProof.Rows.sortedHeap_at (vs := acc.toList) (out := out) hoL
  have pm := a1
  rw [ea] at pm
  obtain ⟨L, eL, hL⟩ := out_refs out.toList (xs.map fun x => x.2.1) fun v hv => by
    obtain ⟨a, ha, e⟩ := List.mem_map.mp (pm.mem_iff.mp hv)
    exact ⟨a, ha, e.symm⟩
  rw [eL] at pm
  have pmL : L.Perm (xs.map fun x => x.2.1) := perm_refs pm
  -- each with its word
  have ex : ∀ L : List Addr, (∀ a ∈ L, a ∈ xs.map fun x => x.2.1) → ∃ M : List (Addr × List Int), M.map (·.1) = L ∧ ∀ q ∈ M, H q.1 = some (.tup (q.2.map V.int)) ∧ TS.TupInts (h'.push (seqObj "list" acc.toList.toArray 0)) (.ref q.1) q.2 := by
    intro L
    induction L with
    | nil => exact fun _ => ⟨[], rfl, fun _ h => nomatch h⟩
    | cons a L ih =>
      intro h
      obtain ⟨M, e, hM⟩ := ih fun b hb => h b (List.mem_cons_of_mem _ hb)
      obtain ⟨x, hx, e'⟩ := List.mem_map.mp (h a List.mem_cons_self)
      obtain ⟨w, _, hH, ht⟩ := tups x hx
      subst e'
      refine ⟨(x.2.1, w) :: M, by rw [List.map_cons, e], fun q hq => ?_⟩
      rcases List.mem_cons.mp hq with z | z
      · subst z; exact ⟨hH, ht⟩
      · exact hM q z
  obtain ⟨M, eM, hM⟩ := ex L hL
  -- the words, permuted
  have pw : (M.map (·.2)).Perm ws := by
    let f : Addr → List Int := fun a => wordAt (H a)
    have hf : ∀ (a : Addr) (w : List Int), H a = some (.tup (w.map V.int)) → f a = w := fun a w e => by
      show wordAt (H a) = w
      rw [e]
      exact vInt_map w
    have e1 : (M.map (·.1)).map f = M.map (·.2) := by
      rw [List.map_map]
      exact List.map_congr_left fun q hq => hf _ _ (hM q hq).1
    have e2 : (xs.map fun x => x.2.1).map f = ws := by
      rw [List.map_map]
      apply List.ext_getElem?
      intro j
      rw [List.getElem?_map]
      cases hj : xs[j]? with
      | none =>
        have := List.getElem?_eq_none_iff.mp hj
        rw [List.getElem?_eq_none (by omega)]
        rfl
      | some x =>
        obtain ⟨w, hw, hH⟩ := key j x hj
        rw [hw]
        show some (f x.2.1) = some w
        rw [hf _ _ hH]
    have := pmL.map f
    rw [← eM, e1, e2] at this
    exact this
  have pr' : (M.map (·.2)).Pairwise (fun m n => TS.code B m ≤ TS.code B n) := by
    rw [eL, ← eM, List.map_map, List.pairwise_map] at a2
    rw [List.pairwise_map]
    refine List.Pairwise.imp_of_mem (fun {q r} hq hr h => ?_) a2
    have h' : TS.code B (TS.intsOf (h'.push (seqObj "list" acc.toList.toArray 0)) (.ref q.1)) ≤ TS.code B (TS.intsOf (h'.push (seqObj "list" acc.toList.toArray 0)) (.ref r.1)) := h
    rw [(hM q hq).2.ints, (hM r hr).2.ints] at h'
    exact h'
  have lM : M.length = ws.length := by
    have := pw.length_eq
    rw [List.length_map] at this
    exact this
  have hlen : (M.map fun q => V.ref q.1).length ≤ sizeLine := by rw [List.length_map, lM, sizeLine_eq]; omega
  refine wpAny_pure ⟨_, rfl, .ref h'.objs.size, upd H h'.objs.size (.lst (M.map fun q => V.ref q.1)), I1.laid (t' := tk) (fun b u e => ?_) (Nat.le_refl _)
    (show ObjOk X.prog X.w _ _ _ (.lst (M.map fun q => V.ref q.1)) from ⟨hlen, out.toList, c, ?_, by rw [Array.toArray_toList]; exact hc⟩), rfl, q M _ pw pr' (fun q hq => (hM q hq).1) (I1.hok.fresh (Nat.le_refl _))⟩
  · have hb : b < h'.objs.size := Heap.lt_size e
    rw [PyProof.Rows.sortedHeap_old (Nat.ne_of_lt hb) (by rw [size_push']; exact Nat.lt_succ_of_lt hb)]
    exact Heap.get?_push_of_some _ e
  · rw [eL, ← eM, List.map_map]
    have : (M.map fun q => V.ref q.1) = (M.map (·.1)).map V.ref := by rw [List.map_map]; rfl
    rw [this, ← List.map_map]
    exact vals_refs _
end
end L3
set_option Elab.async false
set_option linter.all false
set_option maxRecDepth 100000
set_option maxHeartbeats 2000000
set_option autoImplicit false
/-! what loops walk: lists, tuples, texts, ranges, enumerate and zip of these -/
namespace L3
open PySem PySem.Spec PyProof.Rows L2

/-! ### rows: an iterator whose turns give new tuples -/
def Jrow (row rowY : Nat → Hp → List V → Prop) (fin : Nat → Hp → Prop) : It :=
  ⟨fun i H => ∃ vs, row i H vs, fun i H v H' => ∃ T vs, v = .ref T ∧ H T = none ∧ H' = upd H T (.tup vs) ∧ rowY i H vs, fin⟩
theorem turn_rows {P : Program} {w : World} {K : PySem.W.Frag} {elts : List Expr} {kk : Nat} {tpos : Pos} {row rowY : Nat → Hp → List V → Prop} {fin : Nat → Hp → Prop} {fp : List Addr} {it : Addr} {tn : Nat → Heap → Prop} (mem : it ∈ fp)
    (obj : ∀ i h, tn i h → ∀ b ∈ fp, ∃ o, h.get? b = some o ∧ ∀ v, o.data ≠ .cell v) (keep : ∀ i h h', tn i h → (∀ b ∈ fp, ∀ o, h.get? b = some o → h'.get? b = some o) → tn i h')
    (go : ∀ (X : Cx), X.prog = P → X.w = w → X.K = K → X.calm = true → ∀ (i : Nat) (pins : List (Addr × Obj)) (s : Shared) (σ : L2.St) (H : Hp) (vs : List V), Inv X pins σ H s → (∀ b ∈ fp, FpOk X pins H b) → tn i s.heap → row i H vs →
      rowY i H vs ∧ vs.length ≤ sizeLine ∧ ∃ (fp' wr : List Addr) (n : Nat) (Y : Nat → Heap → Value → Heap → Prop) (St : Nat → Heap → Prop), GoesN P w X.A (.Tuple elts kk tpos) it fp' wr n Y St ∧ (∀ b ∈ wr, b ∈ fp) ∧ i < n ∧ St i s.heap ∧ (∀ h', St (i + 1) h' → tn (i + 1) h') ∧
        ∀ v h', Y i s.heap v h' → ∃ T us, v = .ref T ∧ s.heap.objs.size ≤ T ∧ h'.IsTuple T (us : List Value).toArray ∧ Vals vs us)
    (stop : ∀ (X : Cx), X.prog = P → X.w = w → X.K = K → X.calm = true → ∀ (i : Nat) (pins : List (Addr × Obj)) (s : Shared) (σ : L2.St) (H : Hp), Inv X pins σ H s → (∀ b ∈ fp, FpOk X pins H b) → tn i s.heap → fin i H →
      ∃ (fp' wr : List Addr) (n : Nat) (Y : Nat → Heap → Value → Heap → Prop) (St : Nat → Heap → Prop), GoesN P w X.A (.Tuple elts kk tpos) it fp' wr n Y St ∧ (∀ b ∈ wr, b ∈ fp) ∧ i = n ∧ St i s.heap)
    (self : ∀ (A : Around) (i : Nat) (s : Shared) (Q : Value → Shared → Prop) (E : Value → Shared → Prop), tn i s.heap → Q (.ref it) s → wpAny (model P w) A (pyIter (.ref it)) Q E s) :
    Turn P w K (.Tuple elts kk tpos) (Jrow row rowY fin) fp it tn where
  mem := mem
  obj := obj
  keep := keep
  item := by
    intro X hP hw hK hc i pins s σ H E I hf st hg
    obtain ⟨vs, hr⟩ := hg
    obtain ⟨hrY, hz, fp', wr, n, Y, St, W, hwr, hi, hst, hnext, hY⟩ := go X hP hw hK hc i pins s σ H vs I hf st hr
    subst hP hw hK
    have hob := obj i s.heap st
    refine W.goes i s (fun v s₂ => ∃ x H', Inv X pins σ H' s₂ ∧ RelV x v ∧ (Jrow row rowY fin).yld i H x H' ∧ tn (i + 1) s₂.heap ∧ ∀ b ∈ fp, H' b = none) E hi hst fun v h' tk hv hst' hk htk => ?_
    obtain ⟨T, us, ev, hT, hIs, rv⟩ := hY v h' hv
    subst ev
    have new : ObjOk X.prog X.w (upd H T (.tup vs)) h' T (.tup vs) := ⟨hz, us, rv, hIs⟩
    have I1 : Inv X pins σ (upd H T (.tup vs)) { s with heap := h', toks := tk } := I.turnedNew (ch := wr) hk (fun b hb => hf b (hwr b hb)) hT new
    refine ⟨.ref T, _, I1, rfl, ⟨T, vs, rfl, I.hok.fresh hT, rfl, hrY⟩, hnext h' hst', fun b hb => ?_⟩
    obtain ⟨o, ho, _⟩ := hob b hb
    rw [upd_ne (Nat.ne_of_lt (Nat.lt_of_lt_of_le (Heap.lt_size ho) hT))]
    exact (hf b hb).1
  done := by
    intro X hP hw hK hc i pins s σ H E I hf st hg
    obtain ⟨fp', wr, n, Y, St, W, hwr, hi, hst⟩ := stop X hP hw hK hc i pins s σ H I hf st hg
    subst hP hw hK hi
    exact W.stops s (fun s1 => Inv X pins σ H s1) E hst fun h' tk hk htk => I.turnedL (ch := wr) hk fun b hb => hf b (hwr b hb)
  self := self

/-! ### sources -/
inductive Sr where
  | l (a : Addr)
  | t (a : Addr)
  | s (x : Str)
def sgnV (x : Str) : List V := x.cps.toList.map fun c => .str ⟨#[c]⟩
def Sr.val : Sr → V
  | .l a => .ref a
  | .t a => .ref a
  | .s x => .str x
def Sr.items (K : PySem.W.Frag) (H : Hp) : Sr → List V → Prop
  | .l a, vs => SqL K H a vs
  | .t a, vs => SqT K H a vs
  | .s x, vs => vs = sgnV x ∧ vs.length ≤ sizeLine
def Sr.fp (it : Addr) : Sr → List Addr
  | .l a => [it, a]
  | .t a => [it, a]
  | .s _ => [it]
def Sr.st (it : Addr) (i : Nat) (h : Heap) : Sr → Prop
  | .l a => h.IsListIter it a i
  | .t a => h.IsTupleIter it a i
  | .s x => ∃ t, h.IsStrIter it (strIterType x) x t i
/-- the source's object is not the iterator -/
def Sr.off (it : Addr) : Sr → Prop
  | .l a => a ≠ it
  | .t a => a ≠ it
  | .s _ => True
section
variable {K : PySem.W.Frag} {H : Hp} {r : Sr} {vs vs' : List V} {it : Addr}
theorem Sr.st_at {i : Nat} {h h' : Heap} (st : r.st it i h) (k : ∀ o, h.get? it = some o → h'.get? it = some o) : r.st it i h' := by
  cases r with
  | l a => exact Heap.IsListIter.at st k
  | t a => exact Heap.IsTupleIter.at st k
  | s x => obtain ⟨t, o, ho, q⟩ := st; exact ⟨t, o, k o ho, q⟩
theorem Sr.st_obj {i : Nat} {h : Heap} (st : r.st it i h) : ∃ o, h.get? it = some o ∧ ∀ v, o.data ≠ .cell v := by
  cases r with
  | l a => obtain ⟨o, e, c, d⟩ := st; exact ⟨o, e, fun v z => by rw [d] at z; cases z⟩
  | t a => obtain ⟨o, e, c, d⟩ := st; exact ⟨o, e, fun v z => by rw [d] at z; cases z⟩
  | s x => obtain ⟨t, o, e, c, d⟩ := st; exact ⟨o, e, fun v z => by rw [d] at z; cases z⟩
theorem Sr.inj {X : Cx} {pins : List (Addr × Obj)} {σ : L2.St} {s : Shared} (I : Inv X pins σ H s) (h : r.items X.K H vs) (h' : r.items X.K H vs') : vs = vs' := by
  cases r with
  | l a => exact I.list_inj h h'
  | t a => exact I.tuple_inj h h'
  | s x => exact h.1.trans h'.1.symm
/-- the source drawn -/
theorem Sr.draw {X : Cx} {pins : List (Addr × Obj)} {σ : L2.St} {s : Shared} {i : Nat} (hc : X.calm = true) (I : Inv X pins σ H s) (h : r.items X.K H vs) (st : r.st it i s.heap) (off : r.off it) :
    vs.length ≤ sizeLine ∧ ∃ (P : Nat → Value → Prop) (St : Nat → Heap → Prop), Draws X.prog X.w X.A.in1 it (r.fp it) vs.length P St ∧ St i s.heap ∧ (∀ j h', St j h' → r.st it j h') ∧ ∀ (j : Nat) (x : V) (v : Value), vs[j]? = some x → P j v → RelV x v := by
  have hh : X.A.in1.handled = none := I.ok.hd hc
  cases r with
  | l a =>
    obtain ⟨its, rv, p, hz⟩ := I.list h
    have hl := rv.length
    refine ⟨hz, fun j v => its.toArray[j]? = some v, fun i h => h.IsListIter it a i ∧ h.IsList a its.toArray, ?_, ⟨st, p.isList⟩, fun j h' q => q.1, fun j x v hx hv => ?_⟩
    · have D := Draws.list (prog := X.prog) (w := X.w) (A := X.A.in1) hh it a off its.toArray
      rw [List.size_toArray, ← hl] at D
      exact D
    · obtain ⟨u, hu, ru⟩ := rv.get hx
      have : u = v := by
        have e : its[j]? = some v := by simpa using hv
        rw [hu] at e; exact Option.some.inj e
      exact this ▸ ru
  | t a =>
    obtain ⟨its, rv, p, hz⟩ := I.tuple h
    have hl := rv.length
    refine ⟨hz, fun j v => its.toArray[j]? = some v, fun i h => h.IsTupleIter it a i ∧ h.IsTuple a its.toArray, ?_, ⟨st, p⟩, fun j h' q => q.1, fun j x v hx hv => ?_⟩
    · have D := Draws.tuple (prog := X.prog) (w := X.w) (A := X.A.in1) hh it a off its.toArray
      rw [List.size_toArray, ← hl] at D
      exact D
    · obtain ⟨u, hu, ru⟩ := rv.get hx
      have : u = v := by
        have e : its[j]? = some v := by simpa using hv
        rw [hu] at e; exact Option.some.inj e
      exact this ▸ ru
  | s x =>
    obtain ⟨e, hz⟩ := h
    subst e
    obtain ⟨t, st⟩ := st
    refine ⟨hz, fun i v => ∃ c u, x.cps[i]? = some c ∧ v = .str ⟨#[c]⟩ u, fun i h => h.IsStrIter it (strIterType x) x t i, ?_, st, fun j h' q => ⟨t, q⟩, fun j y v hy hv => ?_⟩
    · have D := Draws.text (prog := X.prog) (w := X.w) (A := X.A.in1) hh it x t
      have hl : (sgnV x).length = x.cps.size := by simp [sgnV]
      rw [hl]
      exact D
    · obtain ⟨c, u, hc, ev⟩ := hv
      unfold sgnV at hy
      rw [List.getElem?_map, Array.getElem?_toList, hc] at hy
      cases hy
      exact ⟨u, ev⟩
/-- how it begins -/
theorem Sr.begins {X : Cx} {pins : List (Addr × Obj)} {σ : L2.St} {s : Shared} {v : Value} (I : Inv X pins σ H s) (h : r.items X.K H vs) (rv : RelV r.val v) :
    ∃ (o : Obj) (B : Heap → Prop), Begins v o B ∧ B s.heap ∧ (∀ it h', h'.get? it = some o → r.st it 0 h') ∧ ∀ it, s.heap.objs.size ≤ it → r.off it := by
  cases r with
  | l a =>
    cases (show v = Value.ref a from rv)
    obtain ⟨its, _, p, _⟩ := I.list h
    exact ⟨_, _, begins_list a its.toArray, p.isList, fun it h' q => ⟨_, q, rfl, rfl⟩, fun it q => Nat.ne_of_lt (Nat.lt_of_lt_of_le p.lt q)⟩
  | t a =>
    cases (show v = Value.ref a from rv)
    obtain ⟨its, _, p, _⟩ := I.tuple h
    refine ⟨_, _, begins_tuple a its.toArray, p, fun it h' q => ⟨_, q, rfl, rfl⟩, fun it q => ?_⟩
    obtain ⟨o, ho, _⟩ := id p
    exact Nat.ne_of_lt (Nat.lt_of_lt_of_le (Heap.lt_size ho) q)
  | s x =>
    obtain ⟨t, e⟩ := (show ∃ t, v = Value.str x t from rv)
    subst e
    exact ⟨_, _, begins_text x t, trivial, fun it h' q => ⟨t, _, q, rfl, rfl⟩, fun _ _ => trivial⟩
end

/-! ### enumerate -/
def rowE (K : PySem.W.Frag) (r : Sr) (i : Nat) (H : Hp) (vs : List V) : Prop := ∃ xs x, r.items K H xs ∧ xs[i]? = some x ∧ vs = [.int (i : Nat), x]
def rowEY (K : PySem.W.Frag) (r : Sr) (i : Nat) (H : Hp) (vs : List V) : Prop := ∀ xs, r.items K H xs → ∃ x, xs[i]? = some x ∧ vs = [.int (i : Nat), x]
def finE (K : PySem.W.Frag) (r : Sr) (i : Nat) (H : Hp) : Prop := ∃ xs, r.items K H xs ∧ xs.length = i
/-- the object of an iterator is no list, no tuple -/
theorem Sr.ne_of {X : Cx} {pins : List (Addr × Obj)} {σ : L2.St} {H : Hp} {s : Shared} {r : Sr} {vs : List V} {e it : Addr} {oe : Obj} (I : Inv X pins σ H s) (h : r.items X.K H vs) (he : s.heap.get? e = some oe) (c1 : oe.cls ≠ .type "list") (c2 : oe.cls ≠ .type "tuple") (hne : e ≠ it) : e ∉ r.fp it := by
  cases r with
  | l a =>
    obtain ⟨its, _, p, _⟩ := I.list h
    obtain ⟨o, ho, hc, _⟩ := p.isList
    intro z
    have z' : e = it ∨ e = a := by simpa [Sr.fp] using z
    rcases z' with z | z
    · exact hne z
    · subst z; rw [he] at ho; cases ho; exact c1 hc
  | t a =>
    obtain ⟨its, _, p, _⟩ := I.tuple h
    obtain ⟨o, ho, hc, _⟩ := p
    intro z
    have z' : e = it ∨ e = a := by simpa [Sr.fp] using z
    rcases z' with z | z
    · exact hne z
    · subst z; rw [he] at ho; cases ho; exact c2 hc
  | s x => intro z; exact hne (by simpa [Sr.fp] using z)
theorem turn_en {P : Program} {w : World} {K : PySem.W.Frag} {elts : List Expr} {kk : Nat} {tpos : Pos} (r : Sr) (e it : Addr) (hne : e ≠ it) (off : r.off it) :
    Turn P w K (.Tuple elts kk tpos) (Jrow (rowE K r) (rowEY K r) (finE K r)) [e, it] e (fun i h => (∃ old, IsEnum h e it ((i : Nat) : Int) old) ∧ r.st it i h) := by
  have fpm : it ∈ r.fp it := by cases r <;> simp [Sr.fp]
  refine turn_rows (by simp) (fun i h st b hb => ?_) (fun i h h' st k => ?_) ?_ ?_ fun A i s Q E st h => ?_
  · obtain ⟨⟨old, he⟩, hi⟩ := st
    have e' : b = e ∨ b = it := by simpa using hb
    rcases e' with z | z
    · rw [z]; exact ⟨_, he, fun v q => nomatch q⟩
    · rw [z]; exact r.st_obj hi
  · obtain ⟨⟨old, he⟩, hi⟩ := st
    exact ⟨⟨old, k e (by simp) _ he⟩, r.st_at hi fun o q => k it (by simp) o q⟩
  · intro X hP hw hK hc i pins s σ H vs I hf st hr
    subst hP hw hK
    obtain ⟨xs, x, hx, hi, rfl⟩ := hr
    obtain ⟨⟨old, he⟩, hit⟩ := st
    obtain ⟨hz, Pv, St, D, h0, hst, hP⟩ := Sr.draw hc I hx hit off
    refine ⟨fun ys hy => ⟨x, by rw [Sr.inj I hy hx]; exact hi, rfl⟩, show 2 ≤ sizeLine by decide, _, _, _, _, _, GoesN.enumFrom 0 D e hne (Sr.ne_of I hx he (by simp) (by simp) hne) fpm, fun b hb => hb, (List.getElem?_eq_some_iff.mp hi).1, ⟨⟨old, ?_⟩, h0⟩, fun h' q => ⟨?_, hst _ _ q.2⟩, fun v h' q => ?_⟩
    · show IsEnum s.heap e it (0 + (i : Int)) old
      rw [Int.zero_add]; exact he
    · obtain ⟨old', q'⟩ := q.1
      rw [Int.zero_add] at q'
      exact ⟨old', q'⟩
    · obtain ⟨T, t, y, ev, hT, hy, hIs⟩ := q
      rw [Int.zero_add] at hIs
      exact ⟨T, [.int i t, y], ev, hT, hIs, .cons ⟨t, rfl⟩ (.cons (hP i x y hi hy) .nil)⟩
  · intro X hP hw hK hc i pins s σ H I hf st hr
    subst hP hw hK
    obtain ⟨xs, hx, hi⟩ := hr
    obtain ⟨⟨old, he⟩, hit⟩ := st
    obtain ⟨hz, Pv, St, D, h0, hst, hP⟩ := Sr.draw hc I hx hit off
    refine ⟨_, _, _, _, _, GoesN.enumFrom 0 D e hne (Sr.ne_of I hx he (by simp) (by simp) hne) fpm, fun b hb => hb, hi.symm, ⟨⟨old, ?_⟩, h0⟩⟩
    show IsEnum s.heap e it (0 + (i : Int)) old
    rw [Int.zero_add]; exact he
  · obtain ⟨⟨_, he⟩, _⟩ := st
    exact wpAny_pyIter_enum he h
set_option maxHeartbeats 1000000 in
theorem meets_enum1 {v : Value} {o : Obj} {H : Heap → Prop} (B : Begins v o H) :
    Meets (Builtin.«enumerate.__new__» ⟨[.type "enumerate", v], []⟩) (fun _ R s => H s.heap ∧
      R (.ok (.ret (.ref (s.heap.push o).objs.size))) { s with heap := (s.heap.push o).push { cls := .type "enumerate", data := .fields #[.none, .bool false, .ref s.heap.objs.size, rawInt 0, .none, .none] } }) :=
  .of_wp fun prog w A R s h => by
    obtain ⟨hp, g, d, tk, os⟩ := s; obtain ⟨h1, h⟩ := h
    have hsub := sub_enumerate
    have q1 : ∀ {A' : Around} {E : Value → Shared → Prop} {Q : Value → Shared → Prop}, Q (.ref hp.objs.size) ⟨hp.push o, g, d, tk, os⟩ → wpAny (model prog w) A' (pyIter v) Q E ⟨hp, g, d, tk, os⟩ :=
      fun q => B.iter prog w _ _ ⟨hp, g, d, tk, os⟩ _ h1 q
    wp_walk using q1
    refine wpAny_stack_any fun st => wpAny_pure ?_
    split
    · rename_i c _ _ _ _ _
      cases (c == Value.type "enumerate")
      · wp_walk using q1
        exact ⟨_, rfl, h⟩
      · wp_walk using q1
        exact ⟨_, rfl, h⟩
    · wp_walk using q1
      exact ⟨_, rfl, h⟩
theorem enum_begins1 {prog : Program} {w : World} {A : Around} {E : Value → Shared → Prop} {s : Shared} {v : Value} {o : Obj} {H : Heap → Prop} {Q : Value → Shared → Prop} (B : Begins v o H) (h1 : H s.heap)
    (h : ∀ h', IsEnum h' (s.heap.objs.size + 1) s.heap.objs.size 0 .none → h'.get? s.heap.objs.size = some o → h'.objs.size = s.heap.objs.size + 2 →
      (∀ b o, s.heap.get? b = some o → h'.get? b = some o) → Q (.ref (s.heap.objs.size + 1)) { s with heap := h' }) :
    wpAny (model prog w) A (call (.type "enumerate") [v]) Q E s := by
  refine callType_new F.called_enumerate (by decide) (F.typeCall_enumerate_1 _) (F.newCall_enumerate_1 _) (fun obj => F.args_object_init_2 obj _) F.entry_enumerate_new
    (meets_enum1 B) ⟨h1, ?_⟩
  have hz : (s.heap.push o).objs.size = s.heap.objs.size + 1 := Heap.size_push ..
  show _ ∧ _
  rw [hz]
  have he : IsEnum ((s.heap.push o).push { cls := .type "enumerate", data := .fields #[.none, .bool false, .ref s.heap.objs.size, rawInt 0, .none, .none] }) (s.heap.objs.size + 1) s.heap.objs.size 0 .none := by
    have := Heap.get?_push_size (s.heap.push o) (o := { cls := .type "enumerate", data := .fields #[.none, .bool false, .ref s.heap.objs.size, rawInt 0, .none, .none] }) rfl
    rw [hz] at this; exact this
  refine ⟨⟨_, he, rfl⟩, h _ he (Heap.get?_push_of_some _ (Heap.get?_push_size _ B.free)) (by rw [Heap.size_push, hz]) fun b o x => Heap.get?_push_of_some _ (Heap.get?_push_of_some _ x)⟩
def iEn (K : PySem.W.Frag) (ta : TA) : TI := fun σ H R => ta σ H fun vs H1 => ∃ (r : Sr) (xs : List V), vs = [r.val] ∧ r.items K H1 xs ∧ R (Jrow (rowE K r) (rowEY K r) (finE K r)) H1
theorem pi_en {X : Cx} {e : Expr} {ta : TA} {p pos tpos : Pos} {elts : List Expr} {kk : Nat} (hg : Gl X "enumerate") (hm : X.mg "enumerate" = none) (ha : PA X [e] ta) (hs : starEach [e] X.env = [(false, eval e X.env)] := by rfl) :
    PI X (.Tuple elts kk tpos) (.Call (.Name "enumerate" p) [e] [] pos) (iEn X.K ta) := by
  refine ⟨fun pins s σ H R I h => ?_⟩
  refine Call_ (ld_blt I hg hm boot_enumerate (PyProof.Rows.callWith_type1 (thn (ha.run pos pins s σ H _ I h) fun us s1 ⟨vs, H1, I1, r1, q1⟩ => ?_) hs rfl))
  obtain ⟨r, xs, ex, hq, q⟩ := q1
  subst ex
  obtain ⟨u, rfl, ru⟩ := vals1 r1
  obtain ⟨o, B, hB, hb, hst, hoff⟩ := Sr.begins I1 hq ru
  refine enum_begins1 hB hb fun h' he hit hsz hk => wpAny_pyIter_enum he ?_
  have I2 : Inv X pins σ H1 { s1 with heap := h' } := I1.kept (t' := s1.toks) hk
  refine ⟨s1.heap.objs.size + 1, [s1.heap.objs.size + 1, s1.heap.objs.size], _, _, H1, rfl, I2, turn_en r (s1.heap.objs.size + 1) s1.heap.objs.size (Nat.succ_ne_self _) (hoff _ (Nat.le_refl _)), ⟨⟨.none, he⟩, hst _ _ hit⟩, fun b hb => ?_, q⟩
  have e' : b = s1.heap.objs.size + 1 ∨ b = s1.heap.objs.size := by simpa using hb
  have hle : s1.heap.objs.size ≤ b := by
    rcases e' with z | z
    · rw [z]; exact Nat.le_add_right _ _
    · rw [z]; exact Nat.le_refl _
  exact I1.fpOk hle (I1.hok.fresh hle)

/-! ### zip of two -/
theorem nadd {n : Nat} (i j : Nat) (h : i ≠ j := by decide) : n + i ≠ n + j := by omega
def rowZ (K : PySem.W.Frag) (r r' : Sr) (i : Nat) (H : Hp) (vs : List V) : Prop := ∃ xs ys x y, r.items K H xs ∧ r'.items K H ys ∧ xs[i]? = some x ∧ ys[i]? = some y ∧ vs = [x, y]
def rowZY (K : PySem.W.Frag) (r r' : Sr) (i : Nat) (H : Hp) (vs : List V) : Prop := ∀ xs ys, r.items K H xs → r'.items K H ys → ∃ x y, xs[i]? = some x ∧ ys[i]? = some y ∧ vs = [x, y]
def finZ (K : PySem.W.Frag) (r r' : Sr) (i : Nat) (H : Hp) : Prop := ∃ xs ys, r.items K H xs ∧ r'.items K H ys ∧ min xs.length ys.length = i
/-- a source is not among the zip's own objects -/
def Sr.out (c : Addr) : Sr → Prop
  | .l a => c ≠ a
  | .t a => c ≠ a
  | .s _ => True
theorem Sr.out_fp {r : Sr} {c it : Addr} (h : r.out c) (hne : c ≠ it) : c ∉ r.fp it := by
  cases r with
  | l a => intro z; have z' : c = it ∨ c = a := by simpa [Sr.fp] using z
           rcases z' with z | z
           · exact hne z
           · exact h z
  | t a => intro z; have z' : c = it ∨ c = a := by simpa [Sr.fp] using z
           rcases z' with z | z
           · exact hne z
           · exact h z
  | s x => intro z; exact hne (by simpa [Sr.fp] using z)
theorem Sr.fpm {r : Sr} {it : Addr} : it ∈ r.fp it := by cases r <;> simp [Sr.fp]
theorem turn_zp {P : Program} {w : World} {K : PySem.W.Frag} {elts : List Expr} {kk : Nat} {tpos : Pos} (r r' : Sr) (z TI TO i1 i2 : Addr) (S : ZipSep2 z TI TO i1 i2 (r.fp i1) (r'.fp i2)) (off : r.off i1) (off' : r'.off i2) :
    Turn P w K (.Tuple elts kk tpos) (Jrow (rowZ K r r') (rowZY K r r') (finZ K r r')) [z, TI, TO, i1, i2] z (fun i h => IsZip h z TI TO .none ∧ IsTupOf2 h TI (.ref i1) (.ref i2) ∧ (∃ a1 a2, IsTupOf2 h TO a1 a2) ∧ r.st i1 i h ∧ r'.st i2 i h) := by
  refine turn_rows (by simp) (fun i h st b hb => ?_) (fun i h h' st k => ?_) ?_ ?_ fun A i s Q E st h => ?_
  · obtain ⟨hz, hTI, ⟨x, y, hTO⟩, h1, h2⟩ := st
    have e' : b = z ∨ b = TI ∨ b = TO ∨ b = i1 ∨ b = i2 := by simpa using hb
    rcases e' with q | q | q | q | q
    · rw [q]; exact ⟨_, hz, fun v q => nomatch q⟩
    · rw [q]; exact ⟨_, hTI, fun v q => nomatch q⟩
    · rw [q]; exact ⟨_, hTO, fun v q => nomatch q⟩
    · rw [q]; exact r.st_obj h1
    · rw [q]; exact r'.st_obj h2
  · obtain ⟨hz, hTI, ⟨x, y, hTO⟩, h1, h2⟩ := st
    exact ⟨k z (by simp) _ hz, k TI (by simp) _ hTI, ⟨x, y, k TO (by simp) _ hTO⟩, r.st_at h1 fun o q => k i1 (by simp) o q, r'.st_at h2 fun o q => k i2 (by simp) o q⟩
  · intro X hP hw hK hc i pins s σ H vs I hf st hr
    subst hP hw hK
    obtain ⟨xs, ys, x, y, hx, hy, hi, hj, rfl⟩ := hr
    obtain ⟨hz, hTI, hTO, h1, h2⟩ := st
    obtain ⟨_, P1, St1, D1, a1, b1, c1⟩ := Sr.draw hc I hx h1 off
    obtain ⟨_, P2, St2, D2, a2, b2, c2⟩ := Sr.draw hc I hy h2 off'
    have l1 := (List.getElem?_eq_some_iff.mp hi).1
    have l2 := (List.getElem?_eq_some_iff.mp hj).1
    refine ⟨fun xs' ys' hx' hy' => ⟨x, y, by rw [Sr.inj I hx' hx]; exact hi, by rw [Sr.inj I hy' hy]; exact hj, rfl⟩, show 2 ≤ sizeLine by decide, _, _, _, _, _, GoesN.zip2 S D1 D2, fun b hb => ?_, by omega, ⟨hz, hTI, hTO, a1, a2⟩, fun h' q => ⟨q.1, q.2.1, q.2.2.1, b1 _ _ q.2.2.2.1, b2 _ _ q.2.2.2.2⟩, fun v h' q => ?_⟩
    · have e' : b = z ∨ b = TO ∨ b = i1 ∨ b = i2 := by simpa using hb
      rcases e' with q | q | q | q <;> simp [q]
    · obtain ⟨T, u, v', ev, hT, hu, hv, hIs⟩ := q
      exact ⟨T, [u, v'], ev, hT, hIs, .cons (c1 i x u hi hu) (.cons (c2 i y v' hj hv) .nil)⟩
  · intro X hP hw hK hc i pins s σ H I hf st hr
    subst hP hw hK
    obtain ⟨xs, ys, hx, hy, hi⟩ := hr
    obtain ⟨hz, hTI, hTO, h1, h2⟩ := st
    obtain ⟨_, P1, St1, D1, a1, b1, c1⟩ := Sr.draw hc I hx h1 off
    obtain ⟨_, P2, St2, D2, a2, b2, c2⟩ := Sr.draw hc I hy h2 off'
    refine ⟨_, _, _, _, _, GoesN.zip2 S D1 D2, fun b hb => ?_, hi.symm, ⟨hz, hTI, hTO, a1, a2⟩⟩
    have e' : b = z ∨ b = TO ∨ b = i1 ∨ b = i2 := by simpa using hb
    rcases e' with q | q | q | q <;> simp [q]
  · exact wpAny_pyIter_zip st.1 h
theorem Sr.old {X : Cx} {pins : List (Addr × Obj)} {σ : L2.St} {H : Hp} {s : Shared} {r : Sr} {vs : List V} (I : Inv X pins σ H s) (h : r.items X.K H vs) {c : Addr} (hc : s.heap.objs.size ≤ c) : r.out c := by
  cases r with
  | l a =>
    obtain ⟨its, _, p, _⟩ := I.list h
    exact Nat.ne_of_gt (Nat.lt_of_lt_of_le p.lt hc)
  | t a =>
    obtain ⟨its, _, p, _⟩ := I.tuple h
    obtain ⟨o, ho, _⟩ := id p
    exact Nat.ne_of_gt (Nat.lt_of_lt_of_le (Heap.lt_size ho) hc)
  | s x => trivial
def iZp (K : PySem.W.Frag) (ta : TA) : TI := fun σ H R => ta σ H fun vs H1 => ∃ (r r' : Sr) (xs ys : List V), vs = [r.val, r'.val] ∧ r.items K H1 xs ∧ r'.items K H1 ys ∧ R (Jrow (rowZ K r r') (rowZY K r r') (finZ K r r')) H1
theorem pi_zp {X : Cx} {e e2 : Expr} {ta : TA} {p pos tpos : Pos} {elts : List Expr} {kk : Nat} (hg : Gl X "zip") (hm : X.mg "zip" = none) (ha : PA X [e, e2] ta)
    (hs : starEach [e, e2] X.env = (false, eval e X.env) :: starEach [e2] X.env := by rfl) (hpl : (backTo pos (starEach [e2] X.env)).any (·.1) = false := by rfl) :
    PI X (.Tuple elts kk tpos) (.Call (.Name "zip" p) [e, e2] [] pos) (iZp X.K ta) := by
  refine ⟨fun pins s σ H R I h => ?_⟩
  refine Call_ (ld_blt I hg hm PyProof.Rows.boot_zip (PyProof.Rows.callWith_type1 (thn (ha.run pos pins s σ H _ I h) fun us s1 ⟨vs, H1, I1, r1, q1⟩ => ?_) hs hpl))
  obtain ⟨r, r', xs, ys, ex, hq, hq', q⟩ := q1
  subst ex
  obtain ⟨u, u', rfl, ru, ru'⟩ := vals2 r1
  obtain ⟨o, B, hB, hb, hst, hoff⟩ := Sr.begins I1 hq ru
  obtain ⟨o', B', hB', hb', hst', hoff'⟩ := Sr.begins I1 hq' ru'
  refine zip_begins2 hB hB' hb hb' fun h' hz hTI hTO g1 g2 hsz hk => wpAny_pyIter_zip hz ?_
  have I2 : Inv X pins σ H1 { s1 with heap := h' } := I1.kept (t' := s1.toks) hk
  have S : ZipSep2 (s1.heap.objs.size + 4) (s1.heap.objs.size + 2) (s1.heap.objs.size + 3) s1.heap.objs.size (s1.heap.objs.size + 1) (r.fp s1.heap.objs.size) (r'.fp (s1.heap.objs.size + 1)) :=
    ⟨nadd 2 4, nadd 3 4, nadd 2 3, nadd 2 0, Sr.fpm, Sr.out_fp (Sr.old I1 hq (Nat.le_add_right _ _)) (nadd 4 0), Sr.out_fp (Sr.old I1 hq (Nat.le_add_right _ _)) (nadd 3 0), nadd 2 1, Sr.fpm, Sr.out_fp (Sr.old I1 hq' (Nat.le_add_right _ _)) (nadd 4 1), Sr.out_fp (Sr.old I1 hq' (Nat.le_add_right _ _)) (nadd 3 1), Sr.out_fp (Sr.old I1 hq' (Nat.le_refl _)) (nadd 0 1), Sr.out_fp (Sr.old I1 hq (Nat.le_add_right _ _)) (nadd 1 0)⟩
  refine ⟨s1.heap.objs.size + 4, [s1.heap.objs.size + 4, s1.heap.objs.size + 2, s1.heap.objs.size + 3, s1.heap.objs.size, s1.heap.objs.size + 1], _, _, H1, rfl, I2, turn_zp r r' _ _ _ _ _ S (hoff _ (Nat.le_refl _)) (hoff' _ (Nat.le_add_right _ _)), ⟨hz, hTI, ⟨_, _, hTO⟩, hst _ _ g1, hst' _ _ g2⟩, fun c hcm => ?_, q⟩
  have e' : c = s1.heap.objs.size + 4 ∨ c = s1.heap.objs.size + 2 ∨ c = s1.heap.objs.size + 3 ∨ c = s1.heap.objs.size ∨ c = s1.heap.objs.size + 1 := by simpa using hcm
  have hle : s1.heap.objs.size ≤ c := by
    rcases e' with z | z | z | z | z <;> rw [z] <;> first | exact Nat.le_add_right _ _ | exact Nat.le_refl _
  exact I1.fpOk hle (I1.hok.fresh hle)

/-! ### a list, a tuple or a text itself -/
def iSq (K : PySem.W.Frag) (tl : TE) : TI := fun σ H R => tl σ H fun x H1 => (∃ a, x = .ref a ∧ (∃ xs, SqL K H1 a xs) ∧ R (Itl K a) H1) ∨ (∃ a, x = .ref a ∧ (∃ xs, SqT K H1 a xs) ∧ R (Itt K a) H1)
theorem pi_sq {X : Cx} {tg l : Expr} {tl : TE} (hl : PE X l tl) : PI X tg l (iSq X.K tl) := by
  refine ⟨fun pins s σ H R I h => ?_⟩
  refine thn (hl.run pins s σ H _ I h) fun v s1 ⟨x, H1, I1, r1, q1⟩ => ?_
  have fr : ∀ b, b ∈ [s1.heap.objs.size] → FpOk X pins H1 b := fun b hb => by
    have e : b = s1.heap.objs.size := by simpa using hb
    subst e
    exact I1.fpOk (Nat.le_refl _) (I1.hok.fresh (Nat.le_refl _))
  rcases q1 with ⟨a, e, ⟨xs, hq⟩, q⟩ | ⟨a, e, ⟨xs, hq⟩, q⟩
  · subst e
    cases r1
    obtain ⟨its, rv, p, hz⟩ := I1.list hq
    exact wpAny_pyIter_list p.isList ⟨s1.heap.objs.size, [s1.heap.objs.size], _, _, H1, rfl, I1.kept (t' := s1.toks) fun b o e => Heap.get?_push_of_some _ e, turn_list a _, ⟨_, Heap.get?_push_size _ rfl, rfl, rfl⟩, fr, q⟩
  · subst e
    cases r1
    obtain ⟨its, rv, p, hz⟩ := I1.tuple hq
    exact wpAny_pyIter_tuple (show s1.heap.IsTuple a its.toArray from p) ⟨s1.heap.objs.size, [s1.heap.objs.size], _, _, H1, rfl, I1.kept (t' := s1.toks) fun b o e => Heap.get?_push_of_some _ e, turn_tuple a _, ⟨_, Heap.get?_push_size _ rfl, rfl, rfl⟩, fr, q⟩
end L3
set_option Elab.async false
set_option linter.all false
set_option maxRecDepth 100000
set_option maxHeartbeats 2000000
set_option autoImplicit false
/-! calls of built-ins, their methods, subscripts, slices, loops' sources: the rules over data -/
namespace L3
open PySem PySem.Spec PyProof.Rows L2

/-! ### what loops walk -/
def itemsF : D → Option (List D)
  | .lst ds => some ds
  | .tup ds => some ds
  | .str cs => if cs.length ≤ sizeLine then some (cs.map fun c => .str [c]) else none
  | .scr ns => some (ns.map .int)
  | _ => none
theorem SqL.up {K : PySem.W.Frag} {F H : Hp} {a : Addr} {vs : List V} (hF : ∀ a o, F a = some o → H a = some o) (h : SqL K F a vs) : SqL K H a vs := by
  rcases h with (h | ⟨o, h⟩) | h
  · exact .inl (.inl (hF _ _ h))
  · exact .inl (.inr ⟨o, hF _ _ h⟩)
  · exact .inr h
theorem src_of {w : Wd} {F : Hp} {A : List Addr} {d : D} {v : V} {ds : List D} (r : Rep w F A d v) (h : itemsF d = some ds) : ∃ (r : Sr) (vs : List V), v = r.val ∧ Reps w F A ds vs ∧ ∀ H : Hp, (∀ a o, F a = some o → H a = some o) → r.items w.K H vs := by
  cases r with
  | lst _ a vs h1 h2 => cases h; exact ⟨.l a, vs, rfl, h2, fun H hF => SqL.of (hF _ _ h1)⟩
  | tup _ a vs h1 h2 => cases h; exact ⟨.t a, vs, rfl, h2, fun H hF => SqT.of (hF _ _ h1)⟩
  | scr ns a h1 => cases h; exact ⟨.l a, _, rfl, Reps.ofInts ns, fun H hF => SqL.up hF h1⟩
  | str cs x h1 =>
    by_cases hl : cs.length ≤ sizeLine
    · have e : cs.map (fun c => D.str [c]) = ds := by
        have q : (if cs.length ≤ sizeLine then some (cs.map fun c => D.str [c]) else none) = some ds := h
        rw [if_pos hl] at q
        exact Option.some.inj q
      subst e
      refine ⟨.s x, sgnV x, rfl, ?_, fun H hF => ⟨rfl, by rw [← h1] at hl; simpa [sgnV] using hl⟩⟩
      have e : sgnV x = cs.map fun c => .str ⟨#[c]⟩ := by unfold sgnV; rw [h1]
      rw [e]
      clear e h1 hl h
      induction cs with
      | nil => exact .nil
      | cons c cs ih => exact .cons _ _ _ _ (.str [c] ⟨#[c]⟩ rfl) ih
    · have q : (if cs.length ≤ sizeLine then some (cs.map fun c => D.str [c]) else none) = some ds := h
      rw [if_neg hl] at q
      cases q
  | _ => cases h
def seqI (d : D) (S : Sto) : Option ItS := match d with
  | .obj k => match S[k]? with
    | some (.lst xs) => some (.mutl k xs.length)
    | _ => none
  | .lst ds => some (.stat ds)
  | .tup ds => some (.stat ds)
  | .scr ns => some (.stat (ns.map .int))
  | _ => none
theorem nxt_stat {ds : List D} {i : Nat} {S : Sto} : (ItS.stat ds).nxt i S = if ds.length < i then none else some ds[i]? := rfl
theorem seqI_obj {k : Nat} {S : Sto} {it : ItS} (h : seqI (.obj k) S = some it) : ∃ xs, S[k]? = some (.lst xs) ∧ it = .mutl k xs.length := by
  have h : (match S[k]? with | some (.lst xs) => some (ItS.mutl k xs.length) | _ => none) = some it := h
  split at h
  · rename_i xs q; cases h; exact ⟨xs, q, rfl⟩
  · cases h
theorem nxt_mutl {k n i : Nat} {S : Sto} {xs : List D} (h : S[k]? = some (.lst xs)) : (ItS.mutl k n).nxt i S = some xs[i]? := by
  show (match S[k]? with | some (.lst xs) => some xs[i]? | _ => none) = _
  rw [h]
theorem nxt_mutl0 {k n i : Nat} {S : Sto} (h : ∀ xs, S[k]? ≠ some (.lst xs)) : (ItS.mutl k n).nxt i S = none := by
  show (match S[k]? with | some (.lst xs) => some xs[i]? | _ => none) = _
  split
  · rename_i xs q; exact absurd q (h xs)
  · rfl
abbrev IM := EnvD → Sto → R ItS
def itQ (f : EM) : IM := fun δ S => (f δ S).bind fun d S1 => match seqI d S1 with
  | some it => .ok it S1
  | none => .bad
section
variable {X : Cx} {T : List (Addr × Str)} {W : WX} {a b c e o : Expr} {es rest : List Expr} {pos p tpos apos cpos : Pos} {tg : Expr}
theorem serves_list {w : Wd} {g0 : G} {ds : List D} {vs : List V} {a : Addr} (r : Reps w g0.F g0.A ds vs) (h : SqL w.K g0.F a vs) : Serves w g0 (.stat ds) (Itl w.K a) := by
  intro i g S e o
  have hF : ∀ a o, g0.F a = some o → g.H a = some o := fun b u q => o.sub _ _ (e.fr _ _ q)
  rw [nxt_stat]
  by_cases hi : ds.length < i
  · rw [if_pos hi]; trivial
  · rw [if_neg hi]
    cases hd : ds[i]? with
    | none => exact ⟨vs, SqL.up hF h, by rw [← r.length]; exact List.getElem?_eq_none_iff.mp hd⟩
    | some d =>
      obtain ⟨v, hv, rv⟩ := r.get hd
      refine ⟨⟨vs, v, SqL.up hF h, hv⟩, fun x H' hy => ⟨g, hy.1.symm, Ext.refl g, o, ?_⟩⟩
      have := hy.2 vs (SqL.up hF h)
      rw [hv] at this
      cases this
      exact rv.mono e.fr e.ad
theorem serves_tup {w : Wd} {g0 : G} {ds : List D} {vs : List V} {a : Addr} (r : Reps w g0.F g0.A ds vs) (h : g0.F a = some (.tup vs)) : Serves w g0 (.stat ds) (Itt w.K a) := by
  intro i g S e o
  have hq : SqT w.K g.H a vs := SqT.of (o.sub _ _ (e.fr _ _ h))
  rw [nxt_stat]
  by_cases hi : ds.length < i
  · rw [if_pos hi]; trivial
  · rw [if_neg hi]
    cases hd : ds[i]? with
    | none => exact ⟨vs, hq, by rw [← r.length]; exact List.getElem?_eq_none_iff.mp hd⟩
    | some d =>
      obtain ⟨v, hv, rv⟩ := r.get hd
      refine ⟨⟨vs, v, hq, hv⟩, fun x H' hy => ⟨g, hy.1.symm, Ext.refl g, o, ?_⟩⟩
      have := hy.2 vs hq
      rw [hv] at this
      cases this
      exact rv.mono e.fr e.ad
theorem serves_mut {w : Wd} {g0 : G} {k n : Nat} {a : Addr} (h : g0.A[k]? = some a) : Serves w g0 (.mutl k n) (Itl w.K a) := by
  intro i g S e o
  obtain ⟨m, eA⟩ := e.ad
  have hA : g.A[k]? = some a := by rw [eA, List.getElem?_append_left (List.getElem?_eq_some_iff.mp h).1]; exact h
  by_cases hx : ∃ xs, S[k]? = some (.lst xs)
  · obtain ⟨xs, hS⟩ := hx
    obtain ⟨vs, h1, r⟩ := o.mo k a _ hA hS
    rw [nxt_mutl hS]
    cases hd : xs[i]? with
    | none => exact ⟨vs, SqL.of h1, by rw [← r.length]; exact List.getElem?_eq_none_iff.mp hd⟩
    | some d =>
      obtain ⟨v, hv, rv⟩ := r.get hd
      refine ⟨⟨vs, v, SqL.of h1, hv⟩, fun x H' hy => ⟨g, hy.1.symm, Ext.refl g, o, ?_⟩⟩
      have := hy.2 vs (SqL.of h1)
      rw [hv] at this
      cases this
      exact rv
  · rw [nxt_mutl0 fun xs q => hx ⟨xs, q⟩]
    trivial
theorem pid_sq {f : EM} (h : PD X T W e f) : PID X T W tg e (itQ f) := by
  obtain ⟨t, p, q⟩ := h.ex
  refine ⟨_, pi_sq p, fun g S σ δ Q o s h => ?_⟩
  refine q g S σ δ _ o s (h.bind.imp fun d S1 g1 e1 o1 h1 v r => ?_)
  cases hi : seqI d S1 with
  | none => rw [hi] at h1; exact h1.elim
  | some it =>
    rw [hi] at h1
    have h1 : Post (wd X T) W σ g1 (.ok it S1) (fun it _ g' => ∀ J, Serves (wd X T) g' it J → Q J g'.H) := h1
    cases r with
    | lst ds a vs h2 h3 => cases hi; exact .inl ⟨a, rfl, ⟨vs, SqL.of (o1.sub _ _ h2)⟩, h1.here o1 _ (serves_list h3 (SqL.of h2))⟩
    | tup ds a vs h2 h3 => cases hi; exact .inr ⟨a, rfl, ⟨vs, SqT.of (o1.sub _ _ h2)⟩, h1.here o1 _ (serves_tup h3 h2)⟩
    | scr ns a h2 => cases hi; exact .inl ⟨a, rfl, ⟨_, SqL.up o1.sub h2⟩, h1.here o1 _ (serves_list (Reps.ofInts ns) h2)⟩
    | obj k a hk =>
      obtain ⟨xs, hS, rfl⟩ := seqI_obj hi
      obtain ⟨vs, h2, _⟩ := o1.mo k a _ hk hS
      exact .inl ⟨a, rfl, ⟨vs, SqL.of h2⟩, h1.here o1 _ (serves_mut hk)⟩
    | _ => cases hi
def rngD (lo : Int) (n : Nat) : List D := (List.range n).map fun i => .int (lo + (i : Nat))
theorem serves_rng {w : Wd} {g0 : G} {lo : Int} {n : Nat} : Serves w g0 (.stat (rngD lo n)) (Itr lo n) := by
  intro i g S e o
  rw [nxt_stat]
  have hl : (rngD lo n).length = n := by simp [rngD]
  by_cases hi : (rngD lo n).length < i
  · rw [if_pos hi]; trivial
  · rw [if_neg hi]
    unfold rngD
    rw [List.getElem?_map]
    by_cases hn : i < n
    · rw [List.getElem?_range hn]
      exact ⟨hn, fun x H' hy => ⟨g, hy.1.symm, Ext.refl g, o, by rw [hy.2]; exact .int _⟩⟩
    · rw [List.getElem?_eq_none (by simpa using hn)]
      exact (show n ≤ i by omega)
def itR1 (u : AM) : IM := fun δ S => (u δ S).bind fun ds S1 => match ds with
  | [.int j] => if -(2 ^ 62) ≤ j ∧ j < 2 ^ 62 then .ok (.stat (rngD 0 j.toNat)) S1 else .bad
  | _ => .bad
def itR2 (u : AM) : IM := fun δ S => (u δ S).bind fun ds S1 => match ds with
  | [.int i, .int j] => if -(2 ^ 62) ≤ i ∧ i < 2 ^ 62 ∧ -(2 ^ 62) ≤ j ∧ j < 2 ^ 62 then .ok (.stat (rngD i (j - i).toNat)) S1 else .bad
  | _ => .bad
theorem pid_rng1 {u : AM} (hm : X.mg "range" = none) (h : PAD X T W [a] u) (hg : Gl X "range" := by rfl) (hs : starEach [a] X.env = [(false, eval a X.env)] := by rfl) : PID X T W tg (.Call (.Name "range" p) [a] [] pos) (itR1 u) := by
  obtain ⟨t, pa, q⟩ := h.ex
  refine ⟨_, pi_range1 hg hm pa hs, fun g S σ δ Q o s h => ?_⟩
  refine q g S σ δ _ o s (h.bind.imp fun ds S1 g1 e1 o1 h1 vs r => ?_)
  split at h1
  · rename_i j
    split at h1
    · rename_i hj
      cases r with
      | cons _ v _ vs rv rt =>
        cases rv
        cases rt
        exact ⟨j, rfl, hj.1, hj.2, h1.here o1 _ serves_rng⟩
    · exact h1.elim
  · exact h1.elim
theorem pid_rng2 {u : AM} (hm : X.mg "range" = none) (h : PAD X T W [a, b] u) (hg : Gl X "range" := by rfl) (hs : starEach [a, b] X.env = [(false, eval a X.env), (false, eval b X.env)] := by rfl) (hs2 : starEach [b] X.env = [(false, eval b X.env)] := by rfl) : PID X T W tg (.Call (.Name "range" p) [a, b] [] pos) (itR2 u) := by
  obtain ⟨t, pa, q⟩ := h.ex
  refine ⟨_, pi_range2 hg hm pa hs hs2, fun g S σ δ Q o s h => ?_⟩
  refine q g S σ δ _ o s (h.bind.imp fun ds S1 g1 e1 o1 h1 vs r => ?_)
  split at h1
  · rename_i i j
    split at h1
    · rename_i hj
      cases r with
      | cons _ v _ vs rv rt =>
        cases rv
        cases rt with
        | cons _ v _ vs rv rt =>
          cases rv
          cases rt
          exact ⟨i, j, rfl, hj, h1.here o1 _ serves_rng⟩
    · exact h1.elim
  · exact h1.elim
/-- rows of frozen data -/
theorem serves_rows {w : Wd} {g0 : G} {ds : List (List D)} {row rowY : Nat → Hp → List V → Prop} {fin : Nat → Hp → Prop} (hrow : ∀ (H : Hp) (i : Nat) (d : List D), (∀ a o, g0.F a = some o → H a = some o) → ds[i]? = some d → ∃ vs, row i H vs)
    (hrep : ∀ (H : Hp) (i : Nat) (d : List D) (vs : List V), (∀ a o, g0.F a = some o → H a = some o) → ds[i]? = some d → rowY i H vs → Reps w g0.F g0.A d vs) (hfin : ∀ H : Hp, (∀ a o, g0.F a = some o → H a = some o) → fin ds.length H) :
    Serves w g0 (.stat (ds.map .tup)) (Jrow row rowY fin) := by
  intro i g S e o
  have hF : ∀ a o, g0.F a = some o → g.H a = some o := fun b u q => o.sub _ _ (e.fr _ _ q)
  rw [nxt_stat, List.length_map]
  by_cases hi : ds.length < i
  · rw [if_pos hi]; trivial
  · rw [if_neg hi, List.getElem?_map]
    cases hd : ds[i]? with
    | none =>
      have hi' : i = ds.length := by have := List.getElem?_eq_none_iff.mp hd; omega
      rw [hi']
      exact hfin g.H hF
    | some d =>
      refine ⟨hrow g.H i d hF hd, fun x H' hy => ?_⟩
      obtain ⟨T, vs, rfl, hT, rfl, hr⟩ := hy
      refine ⟨g.frz T (.tup vs), rfl, Ext.frz o hT, o.frz hT, .tup d T vs upd_same ?_⟩
      exact (hrep g.H i d vs hF hd hr).mono (fun b u q => (Ext.frz o hT).fr _ _ (e.fr _ _ q)) (by obtain ⟨m, q⟩ := e.ad; exact ⟨m, q⟩)
def enumD (ds : List D) : List (List D) := (List.range ds.length).zipWith (fun i d => [.int (i : Nat), d]) ds
def itEn (u : AM) : IM := fun δ S => (u δ S).bind fun ds S1 => match ds with
  | [d] => match itemsF d with
    | some xs => .ok (.stat ((enumD xs).map .tup)) S1
    | none => .bad
  | _ => .bad
theorem enumD_at {ds : List D} {i : Nat} : (enumD ds)[i]? = (ds[i]?).map fun d => [.int (i : Nat), d] := by
  unfold enumD
  rw [List.getElem?_zipWith]
  cases hd : ds[i]? with
  | none => cases (List.range ds.length)[i]? <;> rfl
  | some d =>
    rw [List.getElem?_range (List.getElem?_eq_some_iff.mp hd).1]
    rfl
theorem enumD_length {ds : List D} : (enumD ds).length = ds.length := by simp [enumD]
theorem pid_en {elts : List Expr} {kk : Nat} {u : AM} (hm : X.mg "enumerate" = none) (h : PAD X T W [e] u) (hg : Gl X "enumerate" := by rfl) (hs : starEach [e] X.env = [(false, eval e X.env)] := by rfl) : PID X T W (.Tuple elts kk tpos) (.Call (.Name "enumerate" p) [e] [] pos) (itEn u) := by
  obtain ⟨t, pa, q⟩ := h.ex
  refine ⟨_, pi_en hg hm pa hs, fun g S σ δ Q o s h => ?_⟩
  refine q g S σ δ _ o s (h.bind.imp fun ds S1 g1 e1 o1 h1 vs r => ?_)
  split at h1
  · rename_i d
    cases r with
    | cons _ v _ vs rv rt =>
      cases rt
      cases hi : itemsF d with
      | none => rw [hi] at h1; exact h1.elim
      | some xs =>
        rw [hi] at h1
        obtain ⟨r, us, rfl, hr, hit⟩ := src_of rv hi
        refine ⟨r, us, rfl, hit _ o1.sub, h1.here o1 _ (serves_rows (fun H i d hF hd => ?_) (fun H i d vs hF hd hv => ?_) fun H hF => ⟨us, hit H hF, by rw [enumD_length, hr.length]⟩)⟩
        · rw [enumD_at] at hd
          obtain ⟨y, hy, rfl⟩ := Option.map_eq_some_iff.mp hd
          obtain ⟨v, hv, _⟩ := hr.get hy
          exact ⟨_, us, v, hit H hF, hv, rfl⟩
        · rw [enumD_at] at hd
          obtain ⟨y, hy, rfl⟩ := Option.map_eq_some_iff.mp hd
          obtain ⟨x, h2, rfl⟩ := hv us (hit H hF)
          obtain ⟨v, hv, rv'⟩ := hr.get hy
          rw [h2] at hv
          cases hv
          exact .cons _ _ _ _ (.int _) (.one rv')
  · exact h1.elim
def zipD (xs ys : List D) : List (List D) := xs.zipWith (fun x y => [x, y]) ys
def itZp (u : AM) : IM := fun δ S => (u δ S).bind fun ds S1 => match ds with
  | [d, d'] => match itemsF d, itemsF d' with
    | some xs, some ys => .ok (.stat ((zipD xs ys).map .tup)) S1
    | _, _ => .bad
  | _ => .bad
theorem zipD_at {xs ys : List D} {i : Nat} {d : List D} (h : (zipD xs ys)[i]? = some d) : ∃ x y, xs[i]? = some x ∧ ys[i]? = some y ∧ d = [x, y] := by
  unfold zipD at h
  rw [List.getElem?_zipWith] at h
  cases hx : xs[i]? with
  | none => rw [hx] at h; cases h
  | some x =>
    cases hy : ys[i]? with
    | none => rw [hx, hy] at h; cases h
    | some y => rw [hx, hy] at h; cases h; exact ⟨x, y, rfl, rfl, rfl⟩
theorem pid_zp {e2 : Expr} {elts : List Expr} {kk : Nat} {u : AM} (hm : X.mg "zip" = none) (h : PAD X T W [e, e2] u) (hg : Gl X "zip" := by rfl) (hs : starEach [e, e2] X.env = (false, eval e X.env) :: starEach [e2] X.env := by rfl) (hpl : (backTo pos (starEach [e2] X.env)).any (·.1) = false := by rfl) : PID X T W (.Tuple elts kk tpos) (.Call (.Name "zip" p) [e, e2] [] pos) (itZp u) := by
  obtain ⟨t, pa, q⟩ := h.ex
  refine ⟨_, pi_zp hg hm pa hs hpl, fun g S σ δ Q o s h => ?_⟩
  refine q g S σ δ _ o s (h.bind.imp fun ds S1 g1 e1 o1 h1 vs r => ?_)
  split at h1
  · rename_i d d'
    cases r with
    | cons _ v _ vs rv rt =>
      cases rt with
      | cons _ v' _ vs rv' rt =>
        cases rt
        split at h1
        · rename_i xs ys hi hi'
          obtain ⟨r, us, rfl, hr, hit⟩ := src_of rv hi
          obtain ⟨r', us', rfl, hr', hit'⟩ := src_of rv' hi'
          refine ⟨r, r', us, us', rfl, hit _ o1.sub, hit' _ o1.sub, h1.here o1 _ (serves_rows (fun H i d hF hd => ?_) (fun H i d vs hF hd hv => ?_) fun H hF => ⟨us, us', hit H hF, hit' H hF, by simp [zipD, hr.length, hr'.length]⟩)⟩
          · obtain ⟨x, y, hx, hy, rfl⟩ := zipD_at hd
            obtain ⟨v, hv, _⟩ := hr.get hx
            obtain ⟨v', hv', _⟩ := hr'.get hy
            exact ⟨_, us, us', v, v', hit H hF, hit' H hF, hv, hv', rfl⟩
          · obtain ⟨x, y, hx, hy, rfl⟩ := zipD_at hd
            obtain ⟨v, k1, r1⟩ := hr.get hx
            obtain ⟨v', k2, r2⟩ := hr'.get hy
            obtain ⟨z, z', h2, h3, rfl⟩ := hv us us' (hit H hF) (hit' H hF)
            rw [h2] at k1
            rw [h3] at k2
            cases k1
            cases k2
            exact .cons _ _ _ _ r1 (.one r2)
        · exact h1.elim
  · exact h1.elim
end
end L3
set_option Elab.async false
set_option linter.all false
set_option maxRecDepth 100000
set_option maxHeartbeats 2000000
set_option autoImplicit false
/-! calls of built-ins, their methods, subscripts, slices, dicts with tuple keys -/
namespace L3
open PySem PySem.Spec PyProof.Rows L2

section
variable {X : Cx} {T : List (Addr × Str)} {W : WX} {a b c e o : Expr} {es rest : List Expr} {pos p tpos apos cpos p2 : Pos} {tg : Expr}
/-! ### calls of built-ins -/
def CallD (X : Cx) (T : List (Addr × Str)) (W : WX) (f : Value) (φ : List D → Sto → R D) : Prop :=
  ∃ r : List V → Hp → VK → Prop, CallR X f r ∧ ∀ (g : G) (S : Sto) (σ : L2.St) (ds : List D) (vs : List V) (Q : VK), Ok (wd X T) g S → Reps (wd X T) g.F g.A ds vs →
    Post (wd X T) W σ g (φ ds S) (fun d _ g' => ∀ v, Rep (wd X T) g'.F g'.A d v → Q v g'.H) → r vs g.H Q
def CallLD (X : Cx) (T : List (Addr × Str)) (W : WX) (f : Value) (φ : List D → Sto → R (List D)) : Prop :=
  ∃ r : List V → Hp → VK → Prop, CallR X f r ∧ ∀ (g : G) (S : Sto) (σ : L2.St) (ds : List D) (vs : List V) (Q : VK), Ok (wd X T) g S → Reps (wd X T) g.F g.A ds vs →
    Post (wd X T) W σ g (φ ds S) (fun ds _ g' => ∀ p vs, g.H p = none → g'.H p = some (.lst vs) → p ∉ g'.A → g'.F p = none → Reps (wd X T) g'.F g'.A ds vs → Q (.ref p) g'.H) → r vs g.H Q
theorem CallD.or {f : Value} {φ ψ : List D → Sto → R D} (h : CallD X T W f φ) (h2 : CallD X T W f ψ) : CallD X T W f (fun ds S => orR (φ ds S) (ψ ds S)) := by
  obtain ⟨r, p, q⟩ := h
  obtain ⟨r2, p2, q2⟩ := h2
  refine ⟨_, p.or p2, fun g S σ ds vs Q o rs h => ?_⟩
  rcases h.or with h | h
  · exact .inl (q g S σ ds vs Q o rs h)
  · exact .inr (q2 g S σ ds vs Q o rs h)
theorem CallLD.or {f : Value} {φ ψ : List D → Sto → R (List D)} (h : CallLD X T W f φ) (h2 : CallLD X T W f ψ) : CallLD X T W f (fun ds S => orR (φ ds S) (ψ ds S)) := by
  obtain ⟨r, p, q⟩ := h
  obtain ⟨r2, p2, q2⟩ := h2
  refine ⟨_, p.or p2, fun g S σ ds vs Q o rs h => ?_⟩
  rcases h.or with h | h
  · exact .inl (q g S σ ds vs Q o rs h)
  · exact .inr (q2 g S σ ds vs Q o rs h)
def callM (φ : List D → Sto → R D) (u : AM) : EM := fun δ S => (u δ S).bind φ
def callLM (φ : List D → Sto → R (List D)) (u : AM) : AM := fun δ S => (u δ S).bind φ
theorem pd_callB {x : Str} {id : String} {φ : List D → Sto → R D} {u : AM} (hm : X.mg x = none) (hc : CallD X T W (.builtin id) φ) (ha : PAD X T W (e :: es) u) (hv : bootBuiltins x = some (.builtin id) := by decide +kernel) (hg : Gl X x := by rfl)
    (hn : x ≠ "__name__" := by decide) (hdb : (x == ("__debug__" : Str)) = false := by decide) (he : starEach (e :: es) X.env = (false, eval e X.env) :: starEach es X.env := by rfl) (hpl : (backTo pos (starEach es X.env)).any (·.1) = false := by rfl) :
    PD X T W (.Call (.Name x p) (e :: es) [] pos) (callM φ u) := by
  obtain ⟨r, hr, qr⟩ := hc
  obtain ⟨t, pa, q⟩ := ha.ex
  refine pd_of (pe_callB hr hg hm hv pa hn hdb he hpl) fun g S σ δ Q o s h => ?_
  exact q g S σ δ _ o s (h.bind.imp fun ds S1 g1 e1 o1 h1 vs r => qr g1 S1 σ ds vs Q o1 r h1)
theorem pd_callTy {x : Str} {id : String} {φ : List D → Sto → R D} {u : AM} (hm : X.mg x = none) (hc : CallD X T W (.type id) φ) (ha : PAD X T W (e :: es) u) (hv : bootBuiltins x = some (.type id) := by decide +kernel) (hg : Gl X x := by rfl)
    (hn : x ≠ "__name__" := by decide) (hdb : (x == ("__debug__" : Str)) = false := by decide) (he : starEach (e :: es) X.env = (false, eval e X.env) :: starEach es X.env := by rfl) (hpl : (backTo pos (starEach es X.env)).any (·.1) = false := by rfl) :
    PD X T W (.Call (.Name x p) (e :: es) [] pos) (callM φ u) := by
  obtain ⟨r, hr, qr⟩ := hc
  obtain ⟨t, pa, q⟩ := ha.ex
  refine pd_of (pe_callTy hr hg hm hv pa hn hdb he hpl) fun g S σ δ Q o s h => ?_
  exact q g S σ δ _ o s (h.bind.imp fun ds S1 g1 e1 o1 h1 vs r => qr g1 S1 σ ds vs Q o1 r h1)
theorem pld_callB {x : Str} {id : String} {φ : List D → Sto → R (List D)} {u : AM} (hm : X.mg x = none) (hc : CallLD X T W (.builtin id) φ) (ha : PAD X T W (e :: es) u) (hv : bootBuiltins x = some (.builtin id) := by decide +kernel) (hg : Gl X x := by rfl)
    (hn : x ≠ "__name__" := by decide) (hdb : (x == ("__debug__" : Str)) = false := by decide) (he : starEach (e :: es) X.env = (false, eval e X.env) :: starEach es X.env := by rfl) (hpl : (backTo pos (starEach es X.env)).any (·.1) = false := by rfl) :
    PLD X T W (.Call (.Name x p) (e :: es) [] pos) (callLM φ u) := by
  obtain ⟨r, hr, qr⟩ := hc
  obtain ⟨t, pa, q⟩ := ha.ex
  refine ⟨_, pe_callB hr hg hm hv pa hn hdb he hpl, fun g S σ δ Q o s h => ?_⟩
  exact q g S σ δ _ o s (h.bind.imp fun ds S1 g1 e1 o1 h1 vs r => qr g1 S1 σ ds vs Q o1 r (h1.imp fun ys S2 g2 e2 o2 h2 p us n1 n2 n3 n4 n5 => h2 p us (none_back e1 n1) n2 n3 n4 n5))
theorem pld_callTy {x : Str} {id : String} {φ : List D → Sto → R (List D)} {u : AM} (hm : X.mg x = none) (hc : CallLD X T W (.type id) φ) (ha : PAD X T W (e :: es) u) (hv : bootBuiltins x = some (.type id) := by decide +kernel) (hg : Gl X x := by rfl)
    (hn : x ≠ "__name__" := by decide) (hdb : (x == ("__debug__" : Str)) = false := by decide) (he : starEach (e :: es) X.env = (false, eval e X.env) :: starEach es X.env := by rfl) (hpl : (backTo pos (starEach es X.env)).any (·.1) = false := by rfl) :
    PLD X T W (.Call (.Name x p) (e :: es) [] pos) (callLM φ u) := by
  obtain ⟨r, hr, qr⟩ := hc
  obtain ⟨t, pa, q⟩ := ha.ex
  refine ⟨_, pe_callTy hr hg hm hv pa hn hdb he hpl, fun g S σ δ Q o s h => ?_⟩
  exact q g S σ δ _ o s (h.bind.imp fun ds S1 g1 e1 o1 h1 vs r => qr g1 S1 σ ds vs Q o1 r (h1.imp fun ys S2 g2 e2 o2 h2 p us n1 n2 n3 n4 n5 => h2 p us (none_back e1 n1) n2 n3 n4 n5))
/-- a new list, laid now -/
theorem fresh_post {w : Wd} {σ : L2.St} {g : G} {S : Sto} {ds : List D} {vs : List V} {Q : VK} {p : Addr} (o : Ok w g S) (r : Reps w g.F g.A ds vs) (hp : g.H p = none)
    (h : Post w W σ g (.ok ds S) (fun ds _ g' => ∀ p vs, g.H p = none → g'.H p = some (.lst vs) → p ∉ g'.A → g'.F p = none → Reps w g'.F g'.A ds vs → Q (.ref p) g'.H)) : Q (.ref p) (upd g.H p (.lst vs)) :=
  h (g.tmp p (.lst vs)) (Ext.tmp hp) (o.tmp hp) p vs hp upd_same (o.noA hp) (o.noF hp) r
/-! the arguments: one -/
theorem one_arg {w : Wd} {F : Hp} {A : List Addr} {d : D} {vs : List V} (r : Reps w F A [d] vs) : ∃ v, vs = [v] ∧ Rep w F A d v := by
  cases r with
  | cons _ v _ _ h t => cases t; exact ⟨v, rfl, h⟩
theorem two_arg {w : Wd} {F : Hp} {A : List Addr} {d d' : D} {vs : List V} (r : Reps w F A [d, d'] vs) : ∃ v v', vs = [v, v'] ∧ Rep w F A d v ∧ Rep w F A d' v' := by
  cases r with
  | cons _ v _ _ h t =>
    obtain ⟨v', rfl, h'⟩ := one_arg t
    exact ⟨v, v', rfl, h, h'⟩
/-- a list or a tuple that is read -/
def asQ (d : D) (S : Sto) : Option (List D) := match d with
  | .tup xs => some xs
  | .scr ns => some (ns.map .int)
  | d => asL d S
theorem asQ_of {w : Wd} {g : G} {S : Sto} {d : D} {v : V} {ds : List D} (o : Ok w g S) (r : Rep w g.F g.A d v) (h : asQ d S = some ds) : ∃ a vs, v = .ref a ∧ (SqL w.K g.H a vs ∨ SqT w.K g.H a vs) ∧ Reps w g.F g.A ds vs := by
  cases r with
  | tup ds' a vs h1 h2 => cases h; exact ⟨a, vs, rfl, .inr (SqT.of (o.sub _ _ h1)), h2⟩
  | scr ns a h1 => cases h; exact ⟨a, _, rfl, .inl (SqL.up o.sub h1), Reps.ofInts ns⟩
  | lst ds' a vs h1 h2 =>
    obtain ⟨a', vs', e, h3, h4⟩ := lst_of o (.lst ds' a vs h1 h2) (show asL (.lst ds') S = some ds from h)
    exact ⟨a', vs', e, .inl (SqL.of h3), h4⟩
  | obj k a hk =>
    obtain ⟨a', vs', e, h3, h4⟩ := lst_of o (.obj k a hk) (show asL (.obj k) S = some ds from h)
    exact ⟨a', vs', e, .inl (SqL.of h3), h4⟩
  | _ => cases h
/-! len -/
def lenQ (d : D) (S : Sto) : Option Nat := match d with
  | .str cs => if cs.length ≤ sizeLine then some cs.length else none
  | .obj k => match S[k]? with
    | some (.lst xs) => some xs.length
    | some (.dT kvs) => some kvs.length
    | some (.dK kvs) => some kvs.length
    | _ => none
  | .tup xs => some xs.length
  | .lst xs => some xs.length
  | .scr ns => some ns.length
  | _ => none
def lenD (ds : List D) (S : Sto) : R D := match ds with
  | [d] => match lenQ d S with
    | some n => .ok (.int (n : Nat)) S
    | none => .bad
  | _ => .bad
theorem cd_len : CallD X T W (.builtin "len") lenD := by
  refine ⟨_, call_len.or (call_len_dT.or call_lenD), fun g S σ ds vs Q o rs h => ?_⟩
  unfold lenD at h
  split at h
  · rename_i d
    obtain ⟨v, rfl, r⟩ := one_arg rs
    cases hl : lenQ d S with
    | none => rw [hl] at h; exact h.elim
    | some n =>
      rw [hl] at h
      cases r with
      | str cs x hx =>
        have hl : (if cs.length ≤ sizeLine then some cs.length else none) = some n := hl
        split at hl
        · rename_i hz
          cases hl
          have e : x.length = cs.length := by rw [← hx]; simp [Str.length]
          exact .inl ⟨_, cs.length, rfl, ⟨by rw [e]; exact hz, e.symm⟩, h.here o _ (.int _)⟩
        · cases hl
      | tup ds a us h1 h2 => cases hl; exact .inl ⟨_, ds.length, rfl, .inr ⟨us, SqT.of (o.sub _ _ h1), h2.length⟩, h.here o _ (.int _)⟩
      | lst ds a us h1 h2 => cases hl; exact .inl ⟨_, ds.length, rfl, .inl ⟨us, SqL.of (o.sub _ _ h1), h2.length⟩, h.here o _ (.int _)⟩
      | scr ns a h1 => cases hl; exact .inl ⟨_, ns.length, rfl, .inl ⟨_, SqL.up o.sub h1, by simp⟩, h.here o _ (.int _)⟩
      | obj k a hk =>
        have hl : (match S[k]? with | some (.lst xs) => some xs.length | some (.dT kvs) => some kvs.length | some (.dK kvs) => some kvs.length | _ => none) = some n := hl
        split at hl
        · rename_i xs hS
          cases hl
          obtain ⟨us, h1, h2⟩ := o.mo k a _ hk hS
          exact .inl ⟨_, xs.length, rfl, .inl ⟨us, SqL.of h1, h2.length⟩, h.here o _ (.int _)⟩
        · rename_i kvs hS
          cases hl
          obtain ⟨us, h1, h2⟩ := o.mo k a _ hk hS
          have e := h2.length
          rw [List.length_map] at e
          exact .inr (.inl ⟨a, _, rfl, h1, h.here o _ (by rw [List.length_zip, List.length_map, ← e, Nat.min_self]; exact .int _)⟩)
        · rename_i kvs hS
          cases hl
          obtain ⟨us, h1, h2⟩ := o.mo k a _ hk hS
          have e := h2.length
          rw [List.length_map] at e
          exact .inr (.inr ⟨a, _, rfl, h1, h.here o _ (by rw [List.length_zip, List.length_map, ← e, Nat.min_self]; exact .int _)⟩)
        · cases hl
      | _ => cases hl
  · exact h.elim
/-! isinstance -/
def tyName (d : D) (S : Sto) : Option String := match d with
  | .non => some "NoneType"
  | .bl _ => some "bool"
  | .int _ => some "int"
  | .str _ => some "str"
  | .tup _ => some "tuple"
  | .lst _ => some "list"
  | .obj k => match S[k]? with
    | some (.lst _) => some "list"
    | some (.dT _) => some "dict"
    | some (.dK _) => some "dict"
    | _ => none
  | _ => none
def isTy (t n : String) : Option Bool :=
  if n = "int" then some (t = "int" || t = "bool") else if n = "bool" ∨ n = "str" ∨ n = "tuple" ∨ n = "list" ∨ n = "dict" then some (t = n) else none
def isiD (ds : List D) (S : Sto) : R D := match ds with
  | [d, .ty n] => match tyName d S with
    | some t => match isTy t n with
      | some b => .ok (.bl b) S
      | none => .bad
    | none => .bad
  | _ => .bad
theorem isTy_ok {t n : String} {b : Bool} (ht : t = "NoneType" ∨ t = "bool" ∨ t = "int" ∨ t = "str" ∨ t = "tuple" ∨ t = "list" ∨ t = "dict") (h : isTy t n = some b) : kitB t n = some b := by
  unfold isTy at h
  split at h
  · rename_i e
    subst e
    rcases ht with e | e | e | e | e | e | e <;> subst e <;> cases h <;> decide +kernel
  · split at h
    · rename_i e
      rcases e with e | e | e | e | e <;> subst e <;> rcases ht with e | e | e | e | e | e | e <;> subst e <;> cases h <;> decide +kernel
    · cases h
theorem cd_isi : CallD X T W (.builtin "isinstance") isiD := by
  refine ⟨_, call_isi, fun g S σ ds vs Q o rs h => ?_⟩
  unfold isiD at h
  split at h
  · rename_i d n
    obtain ⟨v, v', rfl, r, r'⟩ := two_arg rs
    cases r'
    cases ht : tyName d S with
    | none => rw [ht] at h; exact h.elim
    | some t =>
      rw [ht] at h
      cases hb : isTy t n with
      | none => simp only [hb] at h; exact h.elim
      | some b =>
        simp only [hb] at h
        have q := h.here o _ (.bl b)
        cases r with
        | non => cases ht; exact ⟨_, _, .type "NoneType", .type n, b, rfl, .ty n, .base .non, kit_ty (isTy_ok (by simp) hb), q⟩
        | bl k => cases ht; exact ⟨_, _, .type "bool", .type n, b, rfl, .ty n, .base (.bl k), kit_ty (isTy_ok (by simp) hb), q⟩
        | int i => cases ht; exact ⟨_, _, .type "int", .type n, b, rfl, .ty n, .base (.int i), kit_ty (isTy_ok (by simp) hb), q⟩
        | str cs x hx => cases ht; exact ⟨_, _, .type "str", .type n, b, rfl, .ty n, .base (.str x), kit_ty (isTy_ok (by simp) hb), q⟩
        | tup ds a us h1 h2 => cases ht; exact ⟨_, _, .type "tuple", .type n, b, rfl, .ty n, .base (.tup (o.sub _ _ h1)), kit_ty (isTy_ok (by simp) hb), q⟩
        | lst ds a us h1 h2 => cases ht; exact ⟨_, _, .type "list", .type n, b, rfl, .ty n, .base (.lst (o.sub _ _ h1)), kit_ty (isTy_ok (by simp) hb), q⟩
        | obj k a hk =>
          have ht : (match S[k]? with | some (.lst _) => some "list" | some (.dT _) => some "dict" | some (.dK _) => some "dict" | _ => none) = some t := ht
          split at ht
          · rename_i xs hS
            cases ht
            obtain ⟨us, h1, _⟩ := o.mo k a _ hk hS
            exact ⟨_, _, .type "list", .type n, b, rfl, .ty n, .base (.lst h1), kit_ty (isTy_ok (by simp) hb), q⟩
          · rename_i xs hS
            cases ht
            obtain ⟨us, h1, _⟩ := o.mo k a _ hk hS
            exact ⟨_, _, .type "dict", .type n, b, rfl, .ty n, .base (.dT h1), kit_ty (isTy_ok (by simp) hb), q⟩
          · rename_i xs hS
            cases ht
            obtain ⟨us, h1, _⟩ := o.mo k a _ hk hS
            exact ⟨_, _, .type "dict", .type n, b, rfl, .ty n, .base (.dK h1), kit_ty (isTy_ok (by simp) hb), q⟩
          · cases ht
        | _ => cases ht
  · exact h.elim
end
end L3
set_option Elab.async false
set_option linter.all false
set_option maxRecDepth 100000
set_option maxHeartbeats 2000000
set_option autoImplicit false
/-! sorting words, sets of words, dicts with tuple keys -/
namespace L3
open PySem PySem.Spec PyProof.Rows L2

/-! ### words in order -/
theorem code_inj {B : Int} : ∀ {m n : List Int}, m.length = n.length → TS.Bd B m → TS.Bd B n → TS.code B m = TS.code B n → m = n
  | [], [], _, _, _, _ => rfl
  | [], _ :: _, h, _, _, _ => by simp at h
  | _ :: _, [], h, _, _, _ => by simp at h
  | d :: r, e :: q, h, h1, h2, he => by
    have hl : r.length = q.length := by simpa using h
    rcases Int.lt_trichotomy d e with z | z | z
    · have := TS.code_lt hl h1.tail h2.tail z; omega
    · subst z
      have he' : d * B ^ r.length + TS.code B r = d * B ^ q.length + TS.code B q := he
      rw [← hl] at he'
      have : TS.code B r = TS.code B q := by omega
      rw [code_inj hl h1.tail h2.tail this]
    · have := TS.code_lt hl.symm h2.tail h1.tail z; omega
def insC (B : Int) (w : List Int) : List (List Int) → List (List Int)
  | [] => [w]
  | x :: r => if TS.code B w ≤ TS.code B x then w :: x :: r else x :: insC B w r
def sortC (B : Int) : List (List Int) → List (List Int)
  | [] => []
  | w :: r => insC B w (sortC B r)
theorem insC_perm (B : Int) (w : List Int) : ∀ l, (insC B w l).Perm (w :: l)
  | [] => List.Perm.refl _
  | x :: r => by
    unfold insC
    split
    · exact List.Perm.refl _
    · exact ((insC_perm B w r).cons x).trans (List.Perm.swap _ _ _)
theorem sortC_perm (B : Int) : ∀ l, (sortC B l).Perm l
  | [] => List.Perm.refl _
  | w :: r => (insC_perm B w _).trans ((sortC_perm B r).cons w)
theorem insC_sorted (B : Int) (w : List Int) : ∀ l, l.Pairwise (fun m n => TS.code B m ≤ TS.code B n) → (insC B w l).Pairwise (fun m n => TS.code B m ≤ TS.code B n)
  | [], _ => List.pairwise_singleton _ _
  | x :: r, h => by
    unfold insC
    obtain ⟨h1, h2⟩ := List.pairwise_cons.mp h
    split
    · rename_i hc
      refine List.pairwise_cons.mpr ⟨fun y hy => ?_, h⟩
      rcases List.mem_cons.mp hy with z | z
      · rw [z]; exact hc
      · exact Int.le_trans hc (h1 y z)
    · rename_i hc
      refine List.pairwise_cons.mpr ⟨fun y hy => ?_, insC_sorted B w r h2⟩
      rcases List.mem_cons.mp ((insC_perm B w r).mem_iff.mp hy) with z | z
      · rw [z]; omega
      · exact h1 y z
theorem sortC_sorted (B : Int) : ∀ l, (sortC B l).Pairwise (fun m n => TS.code B m ≤ TS.code B n)
  | [] => .nil
  | w :: r => insC_sorted B w _ (sortC_sorted B r)
/-- sorted lists of the same words are one -/
theorem sorted_one {B : Int} : ∀ {l m : List (List Int)}, l.Perm m → l.Pairwise (fun m n => TS.code B m ≤ TS.code B n) → m.Pairwise (fun m n => TS.code B m ≤ TS.code B n) →
    (∀ x ∈ l, ∀ y ∈ l, TS.code B x = TS.code B y → x = y) → l = m
  | [], m, p, _, _, _ => by have := p.symm.eq_nil; exact this.symm
  | x :: l, [], p, _, _, _ => by have := p.eq_nil; cases this
  | x :: l, y :: m, p, h1, h2, inj => by
    obtain ⟨a1, a2⟩ := List.pairwise_cons.mp h1
    obtain ⟨b1, b2⟩ := List.pairwise_cons.mp h2
    have hy : y ∈ x :: l := p.symm.mem_iff.mp List.mem_cons_self
    have hx : x ∈ y :: m := p.mem_iff.mp List.mem_cons_self
    have hxy : x = y := by
      rcases List.mem_cons.mp hy with z | z
      · exact z.symm
      · rcases List.mem_cons.mp hx with z' | z'
        · exact z'
        · exact inj x List.mem_cons_self y hy (Int.le_antisymm (a1 y z) (b1 x z'))
    subst hxy
    rw [sorted_one (p.cons_inv) a2 b2 fun a ha b hb => inj a (List.mem_cons_of_mem _ ha) b (List.mem_cons_of_mem _ hb)]
def wordD (w : List Int) : D := .tup (w.map .int)
def wordsOf : List D → Option (List (List Int))
  | [] => some []
  | .tup ds :: r => match intsOf ds, wordsOf r with
    | some w, some l => some (w :: l)
    | _, _ => none
  | _ => none
@[simp] theorem wordsOf_map : ∀ ws : List (List Int), wordsOf (ws.map wordD) = some ws
  | [] => rfl
  | w :: r => by
    show (match intsOf (w.map .int), wordsOf (r.map wordD) with | some w, some l => some (w :: l) | _, _ => none) = _
    rw [intsOf_map, wordsOf_map r]
theorem wordsOf_eq : ∀ {ds : List D} {ws : List (List Int)}, wordsOf ds = some ws → ds = ws.map wordD
  | [], ws, h => by cases h; rfl
  | d :: r, ws, h => by
    cases d with
    | tup xs =>
      have h : (match intsOf xs, wordsOf r with | some w, some l => some (w :: l) | _, _ => none) = some ws := h
      split at h
      · rename_i w l hw hl
        cases h
        rw [intsOf_eq hw, wordsOf_eq hl]
        rfl
      · cases h
    | _ => cases h
/-- all of one length, at least 1, in bounds -/
def okWords (B : Int) (ws : List (List Int)) : Bool := match ws with
  | [] => true
  | w :: r => decide (1 ≤ w.length) && (w :: r).all fun v => decide (v.length = w.length) && v.all fun m => decide (0 ≤ m ∧ m < B)
theorem okWords_d {B : Int} {ws : List (List Int)} (h : okWords B ws = true) : ∃ d, 1 ≤ d ∧ ∀ w ∈ ws, w.length = d ∧ TS.Bd B w := by
  cases ws with
  | nil => exact ⟨1, Nat.le_refl 1, fun _ h => nomatch h⟩
  | cons w r =>
    have h : (decide (1 ≤ w.length) && (w :: r).all fun v => decide (v.length = w.length) && v.all fun m => decide (0 ≤ m ∧ m < B)) = true := h
    rw [Bool.and_eq_true] at h
    refine ⟨w.length, of_decide_eq_true h.1, fun v hv => ?_⟩
    have q := List.all_eq_true.mp h.2 v hv
    rw [Bool.and_eq_true] at q
    exact ⟨of_decide_eq_true q.1, fun m hm => of_decide_eq_true (List.all_eq_true.mp q.2 m hm)⟩
theorem words_inj {B : Int} {d : Nat} {ws l : List (List Int)} (hw : ∀ w ∈ ws, w.length = d ∧ TS.Bd B w) (hl : ∀ w ∈ l, w ∈ ws) : ∀ x ∈ l, ∀ y ∈ l, TS.code B x = TS.code B y → x = y := fun x hx y hy e =>
  code_inj ((hw x (hl x hx)).1.trans (hw y (hl y hy)).1.symm) (hw x (hl x hx)).2 (hw y (hl y hy)).2 e
theorem sortC_of {B : Int} {d : Nat} {ws l : List (List Int)} (hw : ∀ w ∈ ws, w.length = d ∧ TS.Bd B w) (p : l.Perm ws) (s : l.Pairwise (fun m n => TS.code B m ≤ TS.code B n)) : l = sortC B ws :=
  sorted_one (p.trans (sortC_perm B ws).symm) s (sortC_sorted B ws) (words_inj hw fun w h => p.mem_iff.mp h)
theorem Reps.words {w : Wd} {F : Hp} {A : List Addr} : ∀ {ws : List (List Int)} {vs : List V}, Reps w F A (ws.map wordD) vs → ∃ L : List (Addr × List Int), vs = L.map (fun q => V.ref q.1) ∧ L.map (·.2) = ws ∧ ∀ q ∈ L, F q.1 = some (.tup (q.2.map V.int))
  | [], _, .nil => ⟨[], rfl, rfl, fun _ h => nomatch h⟩
  | x :: ws, _, .cons _ v _ vs h t => by
    obtain ⟨L, e1, e2, e3⟩ := Reps.words t
    cases h with
    | tup _ a us h1 h2 =>
      have eu := h2.ints
      subst eu
      refine ⟨(a, x) :: L, by rw [e1]; rfl, by rw [List.map_cons, e2], fun q hq => ?_⟩
      rcases List.mem_cons.mp hq with z | z
      · subst z; exact h1
      · exact e3 q z
theorem Reps.ofWords {w : Wd} {F : Hp} {A : List Addr} : ∀ {L : List (Addr × List Int)}, (∀ q ∈ L, F q.1 = some (.tup (q.2.map V.int))) → Reps w F A ((L.map (·.2)).map wordD) (L.map fun q => V.ref q.1)
  | [], _ => .nil
  | q :: L, h => .cons _ _ _ _ (.tup _ q.1 _ (h q List.mem_cons_self) (Reps.ofInts _)) (Reps.ofWords fun r hr => h r (List.mem_cons_of_mem _ hr))
/-- a permuted row of references -/
theorem perm_back : ∀ {ys : List V} {L : List (Addr × List Int)}, ys.Perm (L.map fun q => V.ref q.1) → ∃ M : List (Addr × List Int), ys = M.map (fun q => V.ref q.1) ∧ M.Perm L := by
  intro ys L h
  generalize hz : (L.map fun q => V.ref q.1) = zs at h
  induction h generalizing L with
  | nil =>
    have : L = [] := by cases L with | nil => rfl | cons => cases hz
    exact ⟨[], rfl, by rw [this]⟩
  | @cons x l1 l2 h ih =>
    cases L with
    | nil => cases hz
    | cons q L =>
      rw [List.map_cons] at hz
      injection hz with h1 h2
      obtain ⟨M, e, p⟩ := ih h2
      exact ⟨q :: M, by rw [List.map_cons, h1, e], p.cons q⟩
  | @swap x y l =>
    cases L with
    | nil => cases hz
    | cons q L =>
      cases L with
      | nil => rw [List.map_cons] at hz; injection hz with _ h2; cases h2
      | cons r L =>
        rw [List.map_cons, List.map_cons] at hz
        injection hz with h1 h2
        injection h2 with h2 h3
        exact ⟨r :: q :: L, by rw [List.map_cons, List.map_cons, h1, h2, h3], List.Perm.swap _ _ _⟩
  | trans h1 h2 ih1 ih2 =>
    obtain ⟨M, e, p⟩ := ih2 hz
    obtain ⟨N, e', p'⟩ := ih1 e.symm
    exact ⟨N, e', p'.trans p⟩
/-- tuples that stand become still -/
theorem Ok.tupF {w : Wd} {g : G} {S : Sto} {a : Addr} {vs : List V} (o : Ok w g S) (h : g.H a = some (.tup vs)) : ∃ g', g'.H = g.H ∧ g'.A = g.A ∧ Ext g g' ∧ Ok w g' S ∧ g'.F a = some (.tup vs) := by
  cases hF : g.F a with
  | some u =>
    have := o.sub _ _ hF
    rw [h] at this
    cases this
    exact ⟨g, rfl, rfl, Ext.refl g, o, hF⟩
  | none =>
    have kp : ∀ b u, g.F b = some u → upd g.F a (.tup vs) b = some u := fun b u q => upd_kp hF b u q
    have e : Ext g ⟨upd g.F a (.tup vs), g.A, g.H⟩ := ⟨kp, ⟨[], by simp⟩, fun _ _ q _ _ => q, fun _ q => q, fun _ q n => absurd q n, fun b q n => by
      by_cases eb : b = a
      · subst eb; exact .inr (.inr fun xs z => by rw [h] at z; cases z)
      · have q' : upd g.F a (.tup vs) b ≠ none := q
        rw [upd_ne eb] at q'
        exact absurd n q'⟩
    refine ⟨⟨upd g.F a (.tup vs), g.A, g.H⟩, rfl, rfl, e, ⟨fun b u q => ?_, o.len, o.nd, o.on, fun k b m a1 a2 => (o.mo k b m a1 a2).mono kp ⟨[], by simp⟩ fun u q => q, fun k b m a1 a2 a3 => ?_, o.tab⟩, upd_same⟩
    · have q : upd g.F a (.tup vs) b = some u := q
      by_cases eb : b = a
      · subst eb
        rw [upd_same] at q
        cases q
        exact h
      · rw [upd_ne eb] at q
        exact o.sub b u q
    · have eb : b ≠ a := fun z => by
        subst z
        have q := o.mo k b m a1 a2
        cases m with
        | dead => exact a3 rfl
        | lst ds => obtain ⟨us, q, _⟩ := q; rw [h] at q; cases q
        | ins c fs => obtain ⟨C, dx, us, _, q, _⟩ := q; rw [h] at q; cases q
        | dK kvs => obtain ⟨us, q, _⟩ := q; rw [h] at q; cases q
        | dT kvs => obtain ⟨us, q, _⟩ := q; rw [h] at q; cases q
      show upd g.F a (.tup vs) b = none
      rw [upd_ne eb]
      exact o.fr k b m a1 a2 a3
theorem Ok.tupsF {w : Wd} {S : Sto} : ∀ {L : List (Addr × List Int)} {g : G}, Ok w g S → (∀ q ∈ L, g.H q.1 = some (.tup (q.2.map V.int))) → ∃ g', g'.H = g.H ∧ g'.A = g.A ∧ Ext g g' ∧ Ok w g' S ∧ ∀ q ∈ L, g'.F q.1 = some (.tup (q.2.map V.int))
  | [], g, o, _ => ⟨g, rfl, rfl, Ext.refl g, o, fun _ h => nomatch h⟩
  | q :: L, g, o, h => by
    obtain ⟨g1, e1, e2, e3, o1, f1⟩ := o.tupF (h q List.mem_cons_self)
    obtain ⟨g2, k1, k2, k3, o2, f2⟩ := Ok.tupsF (L := L) o1 (fun r hr => by rw [e1]; exact h r (List.mem_cons_of_mem _ hr))
    refine ⟨g2, k1.trans e1, k2.trans e2, e3.trans k3, o2, fun r hr => ?_⟩
    rcases List.mem_cons.mp hr with z | z
    · rw [z]; exact k3.fr _ _ f1
    · exact f2 r z

section
variable {X : Cx} {T : List (Addr × Str)} {W : WX} {a b c e o : Expr} {es rest : List Expr} {pos p tpos apos cpos p2 : Pos} {tg : Expr}
/-! ### sorted -/
theorem CallR.exD {f : Value} {r : Nat → List V → Hp → VK → Prop} (h : ∀ d, 1 ≤ d → CallR X f (r d)) : CallR X f (fun vs H Q => ∃ d, 1 ≤ d ∧ r d vs H Q) := by
  intro pins s σ H xs us Q I rs q
  obtain ⟨d, hd, q⟩ := q
  exact h d hd pins s σ H xs us Q I rs q
def sortTD (B : Int) (ds : List D) (S : Sto) : R (List D) := match ds with
  | [d] => match asL d S with
    | some xs => match wordsOf xs with
      | some ws => if ws.length < 64 ∧ okWords B ws = true then .ok ((sortC B ws).map wordD) S else .bad
      | none => .bad
    | none => .bad
  | _ => .bad
theorem cd_sortT (B : Int) : CallLD X T W (.builtin "sorted") (sortTD B) := by
  refine ⟨_, CallR.exD fun d hd => cr_sortT (B := B) hd, fun g S σ ds vs Q o rs h => ?_⟩
  unfold sortTD at h
  split at h
  · rename_i d
    obtain ⟨v, rfl, r⟩ := one_arg rs
    split at h
    · rename_i xs hx
      split at h
      · rename_i ws hw
        split at h
        · rename_i hc
          obtain ⟨d', hd, hB⟩ := okWords_d hc.2
          obtain ⟨a, us, rfl, h1, h2⟩ := lst_of o r hx
          rw [wordsOf_eq hw] at h2
          obtain ⟨L, rfl, e2, e3⟩ := h2.words
          have hH : ∀ q ∈ L, g.H q.1 = some (.tup (q.2.map V.int)) := fun q hq => o.sub _ _ (e3 q hq)
          have lL : L.length = ws.length := by rw [← e2, List.length_map]
          refine ⟨d', hd, a, _, rfl, SqL.of h1, by rw [List.length_map, lL]; exact hc.1, fun x hx => ?_, fun ys p pm so hp => ?_⟩
          · obtain ⟨q, hq, rfl⟩ := List.mem_map.mp hx
            have := hB q.2 (by rw [← e2]; exact List.mem_map_of_mem hq)
            exact ⟨q.2, ⟨q.1, rfl, SqT.of (hH q hq)⟩, this.1, this.2⟩
          · obtain ⟨M, rfl, pM⟩ := perm_back pm
            have so' : (M.map (·.2)).Pairwise (fun m n => TS.code B m ≤ TS.code B n) := by
              rw [List.pairwise_map] at so ⊢
              refine List.Pairwise.imp_of_mem (fun {q r} hq hr z => ?_) so
              exact z _ _ ⟨q.1, rfl, SqT.of (hH q (pM.mem_iff.mp hq))⟩ ⟨r.1, rfl, SqT.of (hH r (pM.mem_iff.mp hr))⟩
            have eM : M.map (·.2) = sortC B ws := sortC_of hB (by rw [← e2]; exact pM.map _) so'
            refine fresh_post o ?_ hp h
            rw [← eM]
            exact Reps.ofWords fun q hq => e3 q (pM.mem_iff.mp hq)
        · exact h.elim
      · exact h.elim
    · exact h.elim
  · exact h.elim
/-- of a dict with words as keys -/
def keysW : List (List L2.Key) → Option (List (List Int))
  | [] => some []
  | k :: r => match keyW k, keysW r with
    | some w, some l => some (w :: l)
    | _, _ => none
where keyW : List L2.Key → Option (List Int)
  | [] => some []
  | .inl i :: r => match keyW r with
    | some l => some (i :: l)
    | none => none
  | _ => none
theorem keyW_eq : ∀ {k : List L2.Key} {w : List Int}, keysW.keyW k = some w → k = wordK w
  | [], w, h => by cases h; rfl
  | x :: r, w, h => by
    cases x with
    | inl i =>
      have h : (match keysW.keyW r with | some l => some (i :: l) | none => none) = some w := h
      split at h
      · rename_i l hl
        cases h
        rw [keyW_eq hl]; rfl
      · cases h
    | inr x => cases h
@[simp] theorem keyW_word : ∀ w : List Int, keysW.keyW (wordK w) = some w
  | [] => rfl
  | i :: r => by
    show (match keysW.keyW (wordK r) with | some l => some (i :: l) | none => none) = _
    rw [keyW_word r]
theorem keysW_eq : ∀ {ks : List (List L2.Key)} {ws : List (List Int)}, keysW ks = some ws → ks = ws.map wordK
  | [], ws, h => by cases h; rfl
  | k :: r, ws, h => by
    have h : (match keysW.keyW k, keysW r with | some w, some l => some (w :: l) | _, _ => none) = some ws := h
    split at h
    · rename_i w l hw hl
      cases h
      rw [keyW_eq hw, keysW_eq hl]; rfl
    · cases h
@[simp] theorem keysW_map : ∀ ws : List (List Int), keysW (ws.map wordK) = some ws
  | [] => rfl
  | w :: r => by
    show (match keysW.keyW (wordK w), keysW (r.map wordK) with | some w, some l => some (w :: l) | _, _ => none) = _
    rw [keyW_word, keysW_map r]
def sortDD (B : Int) (ds : List D) (S : Sto) : R (List D) := match ds with
  | [.obj k] => match S[k]? with
    | some (.dT kvs) => match keysW (kvs.map (·.1)) with
      | some ws => if ws.length < 64 ∧ okWords B ws = true then .ok ((sortC B ws).map wordD) S else .bad
      | none => .bad
    | _ => .bad
  | _ => .bad
theorem cd_sortD (B : Int) (hcalm : X.calm = true) : CallLD X T W (.builtin "sorted") (sortDD B) := by
  refine ⟨_, CallR.exD fun d hd => call_sortedDT (B := B) hcalm hd, fun g S σ ds vs Q o rs h => ?_⟩
  unfold sortDD at h
  split at h
  · rename_i k
    obtain ⟨v, rfl, r⟩ := one_arg rs
    cases r with
    | obj _ a hk =>
      split at h
      · rename_i kvs hS
        split at h
        · rename_i ws hw
          split at h
          · rename_i hc
            obtain ⟨d', hd, hB⟩ := okWords_d hc.2
            obtain ⟨us, h1, h2⟩ := o.mo k a _ hk hS
            have el := h2.length
            rw [List.length_map] at el
            have ek : ((kvs.map (·.1)).zip us).map (·.1) = kvs.map (·.1) := List.map_fst_zip (by rw [List.length_map]; omega)
            refine ⟨d', hd, a, _, ws, rfl, h1, by rw [ek, keysW_eq hw], hc.1, hB, fun L p pm so hH hp => ?_⟩
            obtain ⟨g1, e1, e2, e3, o1, f1⟩ := o.tupsF hH
            have eM : L.map (·.2) = sortC B ws := sortC_of hB pm so
            have hp1 : g1.H p = none := by rw [e1]; exact hp
            have q := fresh_post (Q := Q) o1 (by rw [← eM]; exact Reps.ofWords f1) hp1 ((Post.step e3 h).imp fun ys S2 g2 x2 o2 z p us n1 n2 n3 n4 n5 => z p us (by rw [← e1]; exact n1) n2 n3 n4 n5)
            rw [e1] at q
            exact q
          · exact h.elim
        · exact h.elim
      · exact h.elim
  · exact h.elim
/-- sorted(set(xs)) -/
def dedupW : List (List Int) → List (List Int)
  | [] => []
  | w :: r => if w ∈ r then dedupW r else w :: dedupW r
theorem dedupW_mem {w : List Int} : ∀ {l : List (List Int)}, w ∈ dedupW l ↔ w ∈ l
  | [] => Iff.rfl
  | x :: r => by
    unfold dedupW
    split
    · rename_i hx
      rw [dedupW_mem, List.mem_cons]
      exact ⟨.inr, fun z => z.elim (fun z => z ▸ hx) id⟩
    · rw [List.mem_cons, List.mem_cons, dedupW_mem]
theorem dedupW_nodup : ∀ l : List (List Int), (dedupW l).Nodup
  | [] => .nil
  | x :: r => by
    unfold dedupW
    split
    · exact dedupW_nodup r
    · rename_i hx
      exact List.nodup_cons.mpr ⟨fun z => hx (dedupW_mem.mp z), dedupW_nodup r⟩
def sortSD (B : Int) (ds : List D) (S : Sto) : R (List D) := match ds with
  | [d] => match asL d S with
    | some xs => match wordsOf xs with
      | some ws => if ws.length < 64 ∧ okWords B ws = true then .ok ((sortC B (dedupW ws)).map wordD) S else .bad
      | none => .bad
    | none => .bad
  | _ => .bad
theorem pld_sortSet (B : Int) {u : AM} {ps pp : Pos} (hcalm : X.calm = true) (hu : X.A.units + 64 < cLine) (hm : X.mg "sorted" = none) (hm2 : X.mg "set" = none) (ha : PAD X T W [e] u) (hg : Gl X "sorted" := by rfl) (hg2 : Gl X "set" := by rfl)
    (hs : starEach [.Call (.Name "set" ps) [e] [] pp] X.env = (false, eval (.Call (.Name "set" ps) [e] [] pp) X.env) :: starEach [] X.env := by rfl) (hs2 : starEach [e] X.env = (false, eval e X.env) :: starEach [] X.env := by rfl)
    (h1 : (backTo pos (starEach [] X.env)).any (·.1) = false := by rfl) (h2 : (backTo pp (starEach [] X.env)).any (·.1) = false := by rfl) :
    PLD X T W (.Call (.Name "sorted" p) [.Call (.Name "set" ps) [e] [] pp] [] pos) (callLM (sortSD B) u) := by
  obtain ⟨t, pa, q⟩ := ha.ex
  refine ⟨_, pe_callB (id := "sorted") (cr_sortedT hcalm) hg hm (by decide +kernel) (pa_cons (pe_callTy (T := "set") (cr_setOfT hcalm hu) hg2 hm2 (by decide +kernel) pa (by decide) (by decide) hs2 h2) pa_nil hs) (by decide) (by decide) hs h1, fun g S σ δ Q o s h => ?_⟩
  refine q g S σ δ _ o s (h.bind.imp fun ds S1 g1 e1 o1 h1 vs rs => ?_)
  unfold sortSD at h1
  split at h1
  · rename_i d
    obtain ⟨v, rfl, r⟩ := one_arg rs
    split at h1
    · rename_i xs hx
      split at h1
      · rename_i ws hw
        split at h1
        · rename_i hc
          obtain ⟨d', hd, hB⟩ := okWords_d hc.2
          obtain ⟨a, us, rfl, h3, h4⟩ := lst_of o1 r hx
          rw [wordsOf_eq hw] at h4
          obtain ⟨L, rfl, e2, e3⟩ := h4.words
          have hH : ∀ q ∈ L, g1.H q.1 = some (.tup (q.2.map V.int)) := fun q hq => o1.sub _ _ (e3 q hq)
          have lL : L.length = ws.length := by rw [← e2, List.length_map]
          refine ⟨a, L, rfl, SqL.of h3, fun q hq => SqT.of (hH q hq), by rw [lL]; exact hc.1, fun b M hb k1 k2 => ?_⟩
          have x2 := Ext.tmp (g := g1) (p := b) (o := SetTO X.prog X.w b M) hb
          have o2 := o1.tmp (o := SetTO X.prog X.w b M) hb
          have hM : ∀ q ∈ M, (g1.tmp b (SetTO X.prog X.w b M)).H q.1 = some (.tup (q.2.map V.int)) := fun q hq => upd_kp hb _ _ (hH q (k1 q hq))
          have mw : ∀ q ∈ M, q.2 ∈ ws := fun q hq => by rw [← e2]; exact List.mem_map_of_mem (k1 q hq)
          show ∃ (a : Addr) (L : List (Addr × List Int)) (d : Nat) (B : Int), _
          refine ⟨b, M, d', B, rfl, upd_same, fun q hq => SqT.of (hM q hq), hd, fun q hq => hB _ (mw q hq), fun M' p pm nd _ so hp => ?_⟩
          have eM : M'.map (·.2) = sortC B (dedupW ws) := by
            refine sorted_one ((List.perm_ext_iff_of_nodup nd (((sortC_perm B _).nodup_iff).mpr (dedupW_nodup ws))).mpr fun w => ?_) (by rw [List.pairwise_map]; exact so) (sortC_sorted B _) (words_inj hB fun w hw => ?_)
            · rw [(sortC_perm B _).mem_iff, dedupW_mem]
              constructor
              · intro z
                obtain ⟨q, hq, e⟩ := List.mem_map.mp z
                rw [← e]
                exact mw q (pm.mem_iff.mp hq)
              · intro z
                rw [← e2] at z
                obtain ⟨q, hq, e⟩ := List.mem_map.mp z
                have := k2 q hq
                rw [e] at this
                exact ((pm.map (·.2)).mem_iff).mpr this
            · obtain ⟨q, hq, e⟩ := List.mem_map.mp hw
              rw [← e]
              exact mw q (pm.mem_iff.mp hq)
          refine fresh_post o2 ?_ hp ((Post.step x2 h1).imp fun ys S2 g2 x3 o3 z p us n1 n2 n3 n4 n5 => z p us (none_back (e1.trans x2) n1) n2 n3 n4 n5)
          rw [← eM]
          exact Reps.ofWords fun q hq => (Ext.frz (g := g1) (o := SetTO X.prog X.w b M) o1 hb |> fun _ => e3 q (k1 q (pm.mem_iff.mp hq)))
        · exact h1.elim
      · exact h1.elim
    · exact h1.elim
  · exact h1.elim
end
end L3
set_option Elab.async false
set_option linter.all false
set_option maxRecDepth 100000
set_option maxHeartbeats 2000000
set_option autoImplicit false
/-! more calls, methods, subscripts, slices, stores -/
namespace L3
open PySem PySem.Spec PyProof.Rows L2

def boolsOf : List D → Option (List Bool)
  | [] => some []
  | .bl b :: r => match boolsOf r with
    | some l => some (b :: l)
    | none => none
  | _ => none
@[simp] theorem boolsOf_map : ∀ bs : List Bool, boolsOf (bs.map .bl) = some bs
  | [] => rfl
  | n :: r => by simp [boolsOf, boolsOf_map r]
theorem boolsOf_eq : ∀ {ds : List D} {bs : List Bool}, boolsOf ds = some bs → ds = bs.map .bl
  | [], bs, h => by cases h; rfl
  | d :: r, bs, h => by
    cases d with
    | bl i =>
      unfold boolsOf at h
      split at h
      · rename_i l hl
        cases h
        rw [boolsOf_eq hl]; rfl
      · cases h
    | _ => cases h
section
variable {X : Cx} {T : List (Addr × Str)} {W : WX} {a b c e o : Expr} {es rest : List Expr} {pos p tpos apos cpos p2 : Pos} {tg : Expr}
/-! ### all, any, abs, int, str, tuple, list -/
def allD (ds : List D) (S : Sto) : R D := match ds with
  | [d] => match asL d S with
    | some xs => match boolsOf xs with
      | some bs => .ok (.bl (bs.all id)) S
      | none => .bad
    | none => .bad
  | _ => .bad
def anyD (ds : List D) (S : Sto) : R D := match ds with
  | [d] => match asL d S with
    | some xs => match boolsOf xs with
      | some bs => .ok (.bl (bs.any id)) S
      | none => .bad
    | none => .bad
  | _ => .bad
theorem cd_all (hc : X.calm = true) : CallD X T W (.builtin "all") allD := by
  refine ⟨_, cr_all hc, fun g S σ ds vs Q o rs h => ?_⟩
  unfold allD at h
  split at h
  · obtain ⟨v, rfl, r⟩ := one_arg rs
    split at h
    · rename_i xs hx
      split at h
      · rename_i bs hb
        obtain ⟨a, us, rfl, h1, h2⟩ := lst_of o r hx
        rw [boolsOf_eq hb] at h2
        have e := h2.bools
        subst e
        exact ⟨a, bs, rfl, SqL.of h1, h.here o _ (.bl _)⟩
      · exact h.elim
    · exact h.elim
  · exact h.elim
theorem cd_any (hc : X.calm = true) : CallD X T W (.builtin "any") anyD := by
  refine ⟨_, cr_any hc, fun g S σ ds vs Q o rs h => ?_⟩
  unfold anyD at h
  split at h
  · obtain ⟨v, rfl, r⟩ := one_arg rs
    split at h
    · rename_i xs hx
      split at h
      · rename_i bs hb
        obtain ⟨a, us, rfl, h1, h2⟩ := lst_of o r hx
        rw [boolsOf_eq hb] at h2
        have e := h2.bools
        subst e
        exact ⟨a, bs, rfl, SqL.of h1, h.here o _ (.bl _)⟩
      · exact h.elim
    · exact h.elim
  · exact h.elim
def absD (ds : List D) (S : Sto) : R D := match ds with
  | [.int i] => .ok (.int (if i < 0 then -i else i)) S
  | _ => .bad
theorem cd_abs : CallD X T W (.builtin "abs") absD := by
  refine ⟨_, call_abs, fun g S σ ds vs Q o rs h => ?_⟩
  unfold absD at h
  split at h
  · obtain ⟨v, rfl, r⟩ := one_arg rs
    cases r
    exact ⟨_, rfl, h.here o _ (.int _)⟩
  · exact h.elim
def intD (ds : List D) (S : Sto) : R D := match ds with
  | [.int i] => .ok (.int i) S
  | [.bl k] => .ok (.int (if k then 1 else 0)) S
  | _ => .bad
theorem cd_int : CallD X T W (.type "int") intD := by
  refine ⟨_, call_int1, fun g S σ ds vs Q o rs h => ?_⟩
  unfold intD at h
  split at h
  · obtain ⟨v, rfl, r⟩ := one_arg rs
    cases r
    exact .inl ⟨_, rfl, h.here o _ (.int _)⟩
  · obtain ⟨v, rfl, r⟩ := one_arg rs
    cases r
    exact .inr ⟨_, rfl, h.here o _ (.int _)⟩
  · exact h.elim
def strD (ds : List D) (S : Sto) : R D := match ds with
  | [.str cs] => .ok (.str cs) S
  | _ => .bad
theorem cd_str : CallD X T W (.type "str") strD := by
  refine ⟨_, SkE.call_str_str, fun g S σ ds vs Q o rs h => ?_⟩
  unfold strD at h
  split at h
  · obtain ⟨v, rfl, r⟩ := one_arg rs
    cases r with
    | str cs x hx => exact ⟨x, rfl, h.here o _ (.str _ x hx)⟩
  · exact h.elim
def tupleD (ds : List D) (S : Sto) : R D := match ds with
  | [d] => match asQ d S with
    | some xs => .ok (.tup xs) S
    | none => .bad
  | _ => .bad
theorem cd_tuple : CallD X T W (.type "tuple") tupleD := by
  refine ⟨_, call_tuple_of, fun g S σ ds vs Q o rs h => ?_⟩
  unfold tupleD at h
  split at h
  · rename_i d
    obtain ⟨v, rfl, r⟩ := one_arg rs
    split at h
    · rename_i xs hx
      have lay : ∀ (a : Addr) (us : List V), Reps (wd X T) g.F g.A xs us → ∀ l, g.H l = none → Q (.ref l) (upd g.H l (.tup us)) := fun a us h2 l hl =>
        h (g.frz l (.tup us)) (Ext.frz o hl) (o.frz hl) _ (.tup _ l _ upd_same (h2.ext (Ext.frz o hl)))
      by_cases ht : ∃ ys, d = .tup ys
      · obtain ⟨ys, rfl⟩ := ht
        cases hx
        cases r with
        | tup _ a us h1 h2 => exact ⟨a, us, rfl, .inr ⟨SqT.of (o.sub _ _ h1), h.here o _ (.tup _ a us h1 h2)⟩⟩
      · obtain ⟨a, us, rfl, h1, h2⟩ := asQ_of o r hx
        rcases h1 with h1 | h1
        · exact ⟨a, us, rfl, .inl ⟨h1, lay a us h2⟩⟩
        · cases r with
          | tup ds' _ _ _ _ => exact absurd ⟨ds', rfl⟩ ht
          | lst ds' _ vs' q1 q2 => cases hx; exact ⟨a, vs', rfl, .inl ⟨SqL.of (o.sub _ _ q1), lay a vs' q2⟩⟩
          | scr ns _ q1 => cases hx; exact ⟨a, _, rfl, .inl ⟨SqL.up o.sub q1, lay a _ (Reps.ofInts ns)⟩⟩
          | obj k _ hk =>
            obtain ⟨a', us', e, q1, q2⟩ := lst_of o (.obj k a hk) (show asL (.obj k) S = some xs from hx)
            cases e
            exact ⟨a, us', rfl, .inl ⟨SqL.of q1, lay a us' q2⟩⟩
          | glb x _ _ => cases hx
    · exact h.elim
  · exact h.elim
def listD (ds : List D) (S : Sto) : R (List D) := match ds with
  | [d] => match asQ d S with
    | some xs => .ok xs S
    | none => .bad
  | _ => .bad
theorem cd_list : CallLD X T W (.type "list") listD := by
  refine ⟨_, call_list_of, fun g S σ ds vs Q o rs h => ?_⟩
  unfold listD at h
  split at h
  · obtain ⟨v, rfl, r⟩ := one_arg rs
    split at h
    · rename_i xs hx
      obtain ⟨a, us, rfl, h1, h2⟩ := asQ_of o r hx
      exact ⟨a, us, rfl, h1, fun l hl => fresh_post o h2 hl h⟩
    · exact h.elim
  · exact h.elim

/-! ### subscripts -/
def getQ (xs : Option (List D)) (i : Int) (S : Sto) : R D := match xs with
  | some xs => (match atI xs i with
    | some d => .ok d S
    | none => .bad)
  | none => .bad
def ixD (x y : D) (S : Sto) : R D := match y with
  | .int i => (match x with
    | .str cs => if cs.length ≤ sizeLine then (match atI cs i with
        | some c => .ok (.str [c]) S
        | none => .bad)
      else .bad
    | x => getQ (asQ x S) i S)
  | _ => .bad
theorem atI_len {α β : Type} {xs : List α} {ys : List β} {i : Int} {d : α} (hl : xs.length = ys.length) (h : atI xs i = some d) : ∃ j : Nat, xs[j]? = some d ∧ atI ys i = ys[j]? := by
  unfold atI at h ⊢
  rw [← hl]
  cases hi : ixN xs.length i with
  | none => rw [hi] at h; cases h
  | some j => rw [hi] at h; exact ⟨j, h, rfl⟩
theorem Reps.atI {w : Wd} {F : Hp} {A : List Addr} {ds : List D} {vs : List V} {i : Int} {d : D} (r : Reps w F A ds vs) (h : L2.atI ds i = some d) : ∃ v, L2.atI vs i = some v ∧ Rep w F A d v := by
  obtain ⟨j, h1, h2⟩ := atI_len r.length h
  obtain ⟨v, h3, h4⟩ := r.get h1
  exact ⟨v, by rw [h2, h3], h4⟩
theorem pd_ix {fa fb : EM} (ha : PD X T W a fa) (hb : PD X T W b fb) (hs : PlainIx b := by intro _ _; rfl) : PD X T W (.Subscript a b pos) (bin2 ixD fa fb) := by
  obtain ⟨ta, pa, qa⟩ := ha.ex
  obtain ⟨tb, pb, qb⟩ := hb.ex
  refine pd_of (pe_ix ix_seq pa pb hs) (bin_go qa qb fun g S σ x y vx vy Q o rx ry h => ?_)
  unfold ixD at h
  cases ry with
  | int i =>
    dsimp only at h
    have main : Post (wd X T) W σ g (getQ (asQ x S) i S) (fun d _ g' => ∀ v, Rep (wd X T) g'.F g'.A d v → Q v g'.H) → rIx X.K vx (.int i) g.H Q := fun h => by
      unfold getQ at h
      cases hx : asQ x S with
      | none => rw [hx] at h; exact h.elim
      | some xs =>
        rw [hx] at h
        dsimp only at h
        cases hi : atI xs i with
        | none => rw [hi] at h; exact h.elim
        | some d =>
          rw [hi] at h
          obtain ⟨a, us, rfl, h1, h2⟩ := asQ_of o rx hx
          obtain ⟨v, h3, h4⟩ := h2.atI hi
          rcases h1 with h1 | h1
          · exact .inl ⟨a, us, i, v, rfl, rfl, h1, h3, h.here o _ h4⟩
          · exact .inr (.inl ⟨a, us, i, v, rfl, rfl, h1, h3, h.here o _ h4⟩)
    cases rx with
    | str cs x hx =>
      dsimp only at h
      split at h
      · rename_i hl
        split at h
        · rename_i c hc
          subst hx
          refine .inr (.inr ⟨x, i, c, rfl, rfl, ?_, hc, h.here o _ (.str _ _ rfl)⟩)
          simpa [Str.length] using hl
        · exact h.elim
      · exact h.elim
    | non => exact main h
    | bl b => exact main h
    | int j => exact main h
    | tup ds a vs h1 h2 => exact main h
    | lst ds a vs h1 h2 => exact main h
    | obj k a hk => exact main h
    | scr ns a h1 => exact main h
    | glb x a h1 => exact main h
    | ty n => exact main h
  | _ => exact h.elim

/-! ### slices -/
abbrev OM := EnvD → Sto → R (Option Int)
structure POD (X : Cx) (T : List (Addr × Str)) (W : WX) (e : Option Expr) (f : OM) : Prop where
  ex : ∃ t : TO, PO X e t ∧ ∀ (g : G) (S : Sto) (σ : L2.St) (δ : EnvD) (Q : Option Int → Hp → Prop), Ok (wd X T) g S → SRep (wd X T) g δ σ →
    Post (wd X T) W σ g (f δ S) (fun b _ g' => Q b g'.H) → t σ g.H Q
def noPart : OM := fun _ S => .ok none S
def somePart (f : EM) : OM := fun δ S => (f δ S).bind fun d S1 => match d with
  | .int i => .ok (some i) S1
  | _ => .bad
theorem pod_none : POD X T W none noPart := ⟨_, po_none, fun g S σ δ Q o s h => h.here o⟩
theorem pod_some {f : EM} (h : PD X T W e f) : POD X T W (some e) (somePart f) := by
  obtain ⟨t, p, q⟩ := h.ex
  refine ⟨_, po_some p, fun g S σ δ Q o s h => ?_⟩
  refine q g S σ δ _ o s (h.bind.imp fun d S1 g1 e1 o1 h1 v r => ?_)
  cases r with
  | int i => exact ⟨i, rfl, h1.here o1⟩
  | _ => exact h1.elim
def cutD {α : Type} (xs : List α) (lo hi : Option Int) : List α := (xs.drop (HT.sIx xs.length 0 lo)).take (HT.sIx xs.length xs.length hi - HT.sIx xs.length 0 lo)
theorem Reps.cut {w : Wd} {F : Hp} {A : List Addr} {ds : List D} {vs : List V} {lo hi : Option Int} (r : Reps w F A ds vs) : Reps w F A (cutD ds lo hi) (cutV vs lo hi) := by
  unfold cutD cutV
  rw [r.length]
  exact (r.drop _).take _
theorem cutD_whole {α : Type} {xs : List α} {lo hi : Option Int} (h : HT.sIx xs.length 0 lo = 0 ∧ HT.sIx xs.length xs.length hi = xs.length) : cutD xs lo hi = xs := by
  unfold cutD
  rw [h.1, h.2]
  simp
def slD (x : D) (lo hi : Option Int) (S : Sto) : R D := match x with
  | .tup xs => .ok (.tup (cutD xs lo hi)) S
  | _ => .bad
def slE (fx : EM) (fl fh : OM) : EM := fun δ S => (fx δ S).bind fun x S1 => (fl δ S1).bind fun lo S2 => (fh δ S2).bind fun hi S3 => slD x lo hi S3
theorem pd_sl {lo hi : Option Expr} {fx : EM} {fl fh : OM} (hx : PD X T W e fx) (hl : POD X T W lo fl) (hh : POD X T W hi fh) : PD X T W (.Subscript e (.Slice lo hi none p2) pos) (slE fx fl fh) := by
  obtain ⟨tx, px, qx⟩ := hx.ex
  obtain ⟨tl, pl, ql⟩ := hl.ex
  obtain ⟨th, ph, qh⟩ := hh.ex
  refine pd_of (pe_slice sl_tupA px pl ph) fun g S σ δ Q o s h => ?_
  refine qx g S σ δ _ o s (h.bind.imp fun x S1 g1 e1 o1 h1 v r => ?_)
  refine ql g1 S1 σ δ _ o1 (s.ext e1) (h1.bind.imp fun l S2 g2 e2 o2 h2 => ?_)
  refine qh g2 S2 σ δ _ o2 (s.ext (e1.trans e2)) (h2.bind.imp fun u S3 g3 e3 o3 h3 => ?_)
  have r := r.ext (e2.trans e3)
  cases r with
  | tup ds a vs k1 k2 =>
    refine ⟨a, vs, rfl, SqT.of (o3.sub _ _ k1), fun hw => ?_, fun _ p hp => ?_⟩
    · rw [← k2.length] at hw
      have h4 : Post (wd X T) W σ g3 (.ok (.tup (cutD ds l u)) S3) (fun d _ g' => ∀ v, Rep (wd X T) g'.F g'.A d v → Q v g'.H) := h3
      rw [cutD_whole hw] at h4
      exact h4.here o3 _ (.tup _ a vs k1 k2)
    · exact h3 (g3.frz p (.tup (cutV vs l u))) (Ext.frz o3 hp) (o3.frz hp) _ (.tup _ p _ upd_same (k2.cut.ext (Ext.frz o3 hp)))
  | _ => exact h3.elim
/-- of a list: a new list -/
def slLE (fx : EM) (fl fh : OM) : AM := fun δ S => (fx δ S).bind fun x S1 => (fl δ S1).bind fun lo S2 => (fh δ S2).bind fun hi S3 => match asL x S3 with
  | some xs => .ok (cutD xs lo hi) S3
  | none => .bad
theorem pld_sl {lo hi : Option Expr} {fx : EM} {fl fh : OM} (hx : PD X T W e fx) (hl : POD X T W lo fl) (hh : POD X T W hi fh) : PLD X T W (.Subscript e (.Slice lo hi none p2) pos) (slLE fx fl fh) := by
  obtain ⟨tx, px, qx⟩ := hx.ex
  obtain ⟨tl, pl, ql⟩ := hl.ex
  obtain ⟨th, ph, qh⟩ := hh.ex
  refine ⟨_, pe_slice sl_list px pl ph, fun g S σ δ Q o s h => ?_⟩
  refine qx g S σ δ _ o s (h.bind.imp fun x S1 g1 e1 o1 h1 v r => ?_)
  refine ql g1 S1 σ δ _ o1 (s.ext e1) (h1.bind.imp fun l S2 g2 e2 o2 h2 => ?_)
  refine qh g2 S2 σ δ _ o2 (s.ext (e1.trans e2)) (h2.bind.imp fun u S3 g3 e3 o3 h3 => ?_)
  have r := r.ext (e2.trans e3)
  cases hx : asL x S3 with
  | none => rw [hx] at h3; exact h3.elim
  | some xs =>
    rw [hx] at h3
    obtain ⟨a, vs, rfl, k1, k2⟩ := lst_of o3 r hx
    exact ⟨a, vs, rfl, SqL.of k1, fun p hp => fresh_post o3 k2.cut hp (h3.imp fun ys S4 g4 e4 o4 z p us n1 n2 n3 n4 n5 => z p us (none_back ((e1.trans e2).trans e3) n1) n2 n3 n4 n5)⟩

/-! ### new lists by + and * -/
def addLE (fa fb : EM) : AM := fun δ S => (fa δ S).bind fun x S1 => (fb δ S1).bind fun y S2 => catL x y S2
theorem pld_add {fa fb : EM} (ha : PD X T W a fa) (hb : PD X T W b fb) : PLD X T W (.BinOp a .Add b pos) (addLE fa fb) := by
  obtain ⟨ta, pa, qa⟩ := ha.ex
  obtain ⟨tb, pb, qb⟩ := hb.ex
  refine ⟨_, pe_op op_cat pa pb, fun g S σ δ Q o s h => ?_⟩
  refine qa g S σ δ _ o s (h.bind.imp fun x S1 g1 e1 o1 h1 v r => ?_)
  refine qb g1 S1 σ δ _ o1 (s.ext e1) (h1.bind.imp fun y S2 g2 e2 o2 h2 v' r' => ?_)
  have r := r.ext e2
  unfold catL at h2
  split at h2
  · rename_i as bs hx hy
    split at h2
    · rename_i hl
      obtain ⟨a, us, rfl, k1, k2⟩ := lst_of o2 r hx
      obtain ⟨b, vs, rfl, k3, k4⟩ := lst_of o2 r' hy
      exact ⟨a, b, us, vs, rfl, rfl, k1, k3, by rw [← k2.length, ← k4.length]; exact hl, fun p hp => fresh_post o2 (k2.append k4) hp (h2.imp fun ys S4 g4 e4 o4 z p us n1 n2 n3 n4 n5 => z p us (none_back (e1.trans e2) n1) n2 n3 n4 n5)⟩
    · exact h2.elim
  · exact h2.elim
def repL (x y : D) (S : Sto) : R (List D) := match asL x S, y with
  | some a, .int k => if -(2 ^ 63) ≤ k ∧ k < 2 ^ 63 ∧ a.length * k.toNat ≤ sizeLine then .ok (List.replicate k.toNat a).flatten S else .bad
  | _, _ => .bad
def mulLE (fa fb : EM) : AM := fun δ S => (fa δ S).bind fun x S1 => (fb δ S1).bind fun y S2 => repL x y S2
theorem pld_mul {fa fb : EM} (ha : PD X T W a fa) (hb : PD X T W b fb) : PLD X T W (.BinOp a .Mult b pos) (mulLE fa fb) := by
  obtain ⟨ta, pa, qa⟩ := ha.ex
  obtain ⟨tb, pb, qb⟩ := hb.ex
  refine ⟨_, pe_op op_rep pa pb, fun g S σ δ Q o s h => ?_⟩
  refine qa g S σ δ _ o s (h.bind.imp fun x S1 g1 e1 o1 h1 v r => ?_)
  refine qb g1 S1 σ δ _ o1 (s.ext e1) (h1.bind.imp fun y S2 g2 e2 o2 h2 v' r' => ?_)
  have r := r.ext e2
  unfold repL at h2
  split at h2
  · rename_i as k hx
    split at h2
    · rename_i hl
      obtain ⟨a, us, rfl, k1, k2⟩ := lst_of o2 r hx
      cases r'
      exact ⟨a, k, us, rfl, rfl, k1, hl.1, hl.2.1, by rw [← k2.length]; exact hl.2.2, fun p hp => fresh_post o2 (repsOf_rep k2 k.toNat) hp (h2.imp fun ys S4 g4 e4 o4 z p us n1 n2 n3 n4 n5 => z p us (none_back (e1.trans e2) n1) n2 n3 n4 n5)⟩
    · exact h2.elim
  · exact h2.elim
theorem od_mulT : OpD X T W (binaryOp .Mult) mulT := by
  refine ⟨_, op_repT, fun g S σ x y vx vy Q o rx ry hp => ?_⟩
  unfold mulT at hp
  split at hp
  · rename_i as k
    split at hp
    · rename_i hl
      cases rx with
      | tup _ a us h1 h2 =>
        cases ry
        refine ⟨a, k, us, rfl, rfl, SqT.of (o.sub _ _ h1), fun e => hl.2.2.2 ?_, hl.1, hl.2.1, by rw [← h2.length]; exact hl.2.2.1, fun p hp' => ?_⟩
        · have := h2.length
          rw [e] at this
          exact List.eq_nil_of_length_eq_zero this
        · exact hp (g.frz p _) (Ext.frz o hp') (o.frz hp') _ (.tup _ p _ upd_same ((repsOf_rep h2 k.toNat).ext (Ext.frz o hp')))
    · exact hp.elim
  · exact hp.elim
end
end L3
set_option Elab.async false
set_option linter.all false
set_option maxRecDepth 100000
set_option maxHeartbeats 2000000
set_option autoImplicit false
/-! dicts with tuple keys; stores; methods of lists; attribute targets -/
namespace L3
open PySem PySem.Spec PyProof.Rows L2

/-! ### keys -/
def keyD : D → Option L2.Key
  | .int i => some (.inl i)
  | .str cs => some (.inr ⟨cs.toArray⟩)
  | _ => none
def keysOf : List D → Option (List L2.Key)
  | [] => some []
  | d :: r => match keyD d, keysOf r with
    | some k, some l => some (k :: l)
    | _, _ => none
theorem keyD_of {w : Wd} {F : Hp} {A : List Addr} {d : D} {v : V} {k : L2.Key} (r : Rep w F A d v) (h : keyD d = some k) : v = kV k := by
  cases r with
  | int i => cases h; rfl
  | str cs x hx => cases h; subst hx; rfl
  | _ => cases h
theorem keysOf_of {w : Wd} {F : Hp} {A : List Addr} : ∀ {ds : List D} {vs : List V} {ks : List L2.Key}, Reps w F A ds vs → keysOf ds = some ks → vs = ks.map kV
  | _, _, _, .nil, h => by cases h; rfl
  | _, _, _, .cons d v ds vs h t, e => by
    unfold keysOf at e
    split at e
    · rename_i k l hk hl
      cases e
      rw [keyD_of h hk, keysOf_of t hl]; rfl
    · cases e
@[simp] theorem keysOf_word : ∀ w : List Int, keysOf (w.map .int) = some (wordK w)
  | [] => rfl
  | i :: r => by
    show (match some (Sum.inl i), keysOf (r.map .int) with | some k, some l => some (k :: l) | _, _ => none) = _
    rw [keysOf_word r]; rfl
/-! ### the pairs of a dict -/
section
variable {κ : Type} [DecidableEq κ]
def getKD (kvs : List (κ × D)) (k : κ) : Option D := (kvs.find? fun kv => decide (kv.1 = k)).map (·.2)
def putKD (kvs : List (κ × D)) (k : κ) (d : D) : List (κ × D) :=
  if (kvs.any fun kv => decide (kv.1 = k)) = true then kvs.map (fun kv => if kv.1 = k then (kv.1, d) else kv) else kvs ++ [(k, d)]
def dropKD (kvs : List (κ × D)) (k : κ) : List (κ × D) := kvs.filter fun kv => decide (kv.1 ≠ k)
/-- the pairs, with their values -/
def ZipR (w : Wd) (F : Hp) (A : List Addr) (kvs : List (κ × D)) (us : List (κ × V)) : Prop := ∃ vs, us = (kvs.map (·.1)).zip vs ∧ Reps w F A (kvs.map (·.2)) vs
theorem ZipR.nil {w : Wd} {F : Hp} {A : List Addr} : ZipR w F A ([] : List (κ × D)) [] := ⟨[], rfl, .nil⟩
theorem ZipR.cons {w : Wd} {F : Hp} {A : List Addr} {k : κ} {d : D} {v : V} {kvs : List (κ × D)} {us : List (κ × V)} (h : Rep w F A d v) (t : ZipR w F A kvs us) : ZipR w F A ((k, d) :: kvs) ((k, v) :: us) := by
  obtain ⟨vs, e, r⟩ := t
  exact ⟨v :: vs, by rw [e]; rfl, .cons _ _ _ _ h r⟩
theorem ZipR.inv {w : Wd} {F : Hp} {A : List Addr} {P : List (κ × D) → List (κ × V) → Prop} (h0 : P [] []) (h1 : ∀ k d v kvs us, Rep w F A d v → ZipR w F A kvs us → P kvs us → P ((k, d) :: kvs) ((k, v) :: us)) : ∀ {kvs : List (κ × D)} {us : List (κ × V)}, ZipR w F A kvs us → P kvs us
  | [], us, ⟨vs, e, r⟩ => by cases r; rw [e]; exact h0
  | (k, d) :: kvs, us, ⟨vs, e, r⟩ => by
    cases r with
    | cons _ v _ vs h t =>
      rw [e]
      exact h1 k d v kvs _ h ⟨vs, rfl, t⟩ (ZipR.inv h0 h1 ⟨vs, rfl, t⟩)
variable {w : Wd} {F : Hp} {A : List Addr} {kvs : List (κ × D)} {us : List (κ × V)}
theorem ZipR.length (z : ZipR w F A kvs us) : us.length = kvs.length := z.inv (P := fun a b => b.length = a.length) rfl fun _ _ _ _ _ _ _ ih => by simp [ih]
theorem ZipR.any (z : ZipR w F A kvs us) (k : κ) : (us.any fun kv => decide (kv.1 = k)) = kvs.any fun kv => decide (kv.1 = k) :=
  z.inv (P := fun a b => (b.any fun kv => decide (kv.1 = k)) = a.any fun kv => decide (kv.1 = k)) rfl fun _ _ _ _ _ _ _ ih => by rw [List.any_cons, List.any_cons, ih]
theorem ZipR.get (z : ZipR w F A kvs us) (k : κ) : match getKD kvs k with
    | some d => ∃ v, valV us k = some v ∧ Rep w F A d v
    | none => valV us k = none :=
  z.inv (P := fun a b => match getKD a k with
    | some d => ∃ v, valV b k = some v ∧ Rep w F A d v
    | none => valV b k = none) rfl fun j d v a b h _ ih => by
      by_cases e : j = k
      · have e1 : getKD ((j, d) :: a) k = some d := by simp [getKD, List.find?_cons, e]
        rw [e1]
        exact ⟨v, valV_pos e, h⟩
      · have e1 : getKD ((j, d) :: a) k = getKD a k := by simp [getKD, List.find?_cons, e]
        rw [e1, valV_neg (p := (j, v)) e]
        exact ih
theorem ZipR.repl (z : ZipR w F A kvs us) {d : D} {v : V} (h : Rep w F A d v) (k : κ) : ZipR w F A (kvs.map fun kv => if kv.1 = k then (kv.1, d) else kv) (us.map fun kv => if kv.1 = k then (kv.1, v) else kv) :=
  z.inv (P := fun a b => ZipR w F A (a.map fun kv => if kv.1 = k then (kv.1, d) else kv) (b.map fun kv => if kv.1 = k then (kv.1, v) else kv)) .nil fun j e u a b h' _ ih => by
    rw [List.map_cons, List.map_cons]
    by_cases q : j = k
    · rw [if_pos q, if_pos q]; exact .cons h ih
    · rw [if_neg q, if_neg q]; exact .cons h' ih
theorem ZipR.snoc (z : ZipR w F A kvs us) {d : D} {v : V} (h : Rep w F A d v) (k : κ) : ZipR w F A (kvs ++ [(k, d)]) (us ++ [(k, v)]) :=
  z.inv (P := fun a b => ZipR w F A (a ++ [(k, d)]) (b ++ [(k, v)])) (.cons h .nil) fun j e u a b h' _ ih => .cons h' ih
theorem ZipR.put (z : ZipR w F A kvs us) {d : D} {v : V} (h : Rep w F A d v) (k : κ) : ZipR w F A (putKD kvs k d) (putK us k v) := by
  unfold putKD putK
  rw [z.any k]
  split
  · exact z.repl h k
  · exact z.snoc h k
theorem ZipR.drop (z : ZipR w F A kvs us) (k : κ) : ZipR w F A (dropKD kvs k) (dropK us k) :=
  z.inv (P := fun a b => ZipR w F A (dropKD a k) (dropK b k)) .nil fun j e u a b h' _ ih => by
    unfold dropKD dropK at *
    rw [List.filter_cons, List.filter_cons]
    by_cases q : j = k
    · simp only [q, ne_eq, not_true_eq_false, decide_false, Bool.false_eq_true, if_false]; exact ih
    · simp only [q, ne_eq, not_false_eq_true, decide_true, if_true]; exact .cons h' ih
end
def mergeD (kvs more : List (List L2.Key × D)) : List (List L2.Key × D) := more.foldl (fun acc kv => putKD acc kv.1 kv.2) kvs
theorem ZipR.merge {w : Wd} {F : Hp} {A : List Addr} : ∀ {more : List (List L2.Key × D)} {ms : List (List L2.Key × V)} {kvs : List (List L2.Key × D)} {us : List (List L2.Key × V)}, ZipR w F A more ms → ZipR w F A kvs us → ZipR w F A (mergeD kvs more) (mergeT us ms)
  | [], ms, kvs, us, z, z' => by
    have := z.length
    have e : ms = [] := List.eq_nil_of_length_eq_zero (by simpa using this)
    rw [e]; exact z'
  | (k, d) :: more, ms, kvs, us, ⟨vs, e, r⟩, z' => by
    cases r with
    | cons _ v _ vs h t =>
      rw [e]
      show ZipR w F A (mergeD (putKD kvs k d) more) (mergeT (putK us k v) ((more.map (·.1)).zip vs))
      exact ZipR.merge (more := more) ⟨vs, rfl, t⟩ (z'.put h k)
section
variable {X : Cx} {T : List (Addr × Str)} {W : WX} {a b c e o : Expr} {es rest : List Expr} {pos p tpos apos cpos p2 : Pos} {tg : Expr}
/-! ### the k-th object, a dict with tuple keys -/
def dtOf (d : D) (S : Sto) : Option (Nat × List (List L2.Key × D)) := match d with
  | .obj k => match S[k]? with
    | some (.dT kvs) => some (k, kvs)
    | _ => none
  | _ => none
theorem dt_at {w : Wd} {g : G} {S : Sto} {d : D} {v : V} {k : Nat} {kvs : List (List L2.Key × D)} (o : Ok w g S) (r : Rep w g.F g.A d v) (h : dtOf d S = some (k, kvs)) : ∃ a us, v = .ref a ∧ g.A[k]? = some a ∧ S[k]? = some (.dT kvs) ∧ g.H a = some (.dT us) ∧ ZipR w g.F g.A kvs us := by
  cases r with
  | obj j a hk =>
    have h : (match S[j]? with | some (.dT kvs) => some (j, kvs) | _ => none) = some (k, kvs) := h
    split at h
    · rename_i l hS
      cases h
      obtain ⟨vs, h1, h2⟩ := o.mo _ a _ hk hS
      exact ⟨a, _, rfl, hk, hS, h1, vs, rfl, h2⟩
    · cases h
  | _ => cases h
/-- a tuple as a key -/
def keyT (d : D) : Option (List L2.Key) := match d with
  | .tup ds => keysOf ds
  | _ => none
theorem keyT_of {w : Wd} {g : G} {S : Sto} {d : D} {v : V} {k : List L2.Key} (o : Ok w g S) (r : Rep w g.F g.A d v) (h : keyT d = some k) : ∃ b, v = .ref b ∧ g.H b = some (.tup (k.map kV)) := by
  cases r with
  | tup ds a vs h1 h2 =>
    have e := keysOf_of h2 (show keysOf ds = some k from h)
    subst e
    exact ⟨a, rfl, o.sub _ _ h1⟩
  | _ => cases h
theorem op_inDict (hu : X.A.units + 2 < cLine) : OpR X (compareOp .In) (fun x y H Q => ∃ a o, y = .ref a ∧ DGet H a x o ∧ Q (.bl o.isSome) H) := by
  intro pins s σ H x y v u Q I rx ry h
  obtain ⟨a, o, rfl, g, q⟩ := h
  cases ry
  exact d_in (by omega) I g rx fun s' I' => ⟨.bl _, H, I', rfl, q⟩
theorem op_notInDict (hu : X.A.units + 2 < cLine) : OpR X (compareOp .NotIn) (fun x y H Q => ∃ a o, y = .ref a ∧ DGet H a x o ∧ Q (.bl (!o.isSome)) H) := by
  intro pins s σ H x y v u Q I rx ry h
  obtain ⟨a, o, rfl, g, q⟩ := h
  cases ry
  exact d_notIn (by omega) I g rx fun s' I' => ⟨.bl _, H, I', rfl, q⟩
def inT (neg : Bool) (x y : D) (S : Sto) : R D := match dtOf y S, keyT x with
  | some (_, kvs), some k => .ok (.bl (if neg then !(getKD kvs k).isSome else (getKD kvs k).isSome)) S
  | _, _ => .bad
theorem get_isSome {κ : Type} [DecidableEq κ] {w : Wd} {F : Hp} {A : List Addr} {kvs : List (κ × D)} {us : List (κ × V)} (z : ZipR w F A kvs us) (k : κ) : (valV us k).isSome = (getKD kvs k).isSome := by
  have q := z.get k
  split at q
  · rename_i d hd
    obtain ⟨v, hv, _⟩ := q
    rw [hv, hd]; rfl
  · rename_i hd
    rw [q, hd]; rfl
theorem od_inT (hu : X.A.units + 65 < cLine) : OpD X T W (compareOp .In) (inT false) := by
  refine ⟨_, op_inDict (by omega), fun g S σ x y vx vy Q o rx ry h => ?_⟩
  unfold inT at h
  split at h
  · rename_i j kvs k hy hx
    obtain ⟨a, us, rfl, _, _, h1, z⟩ := dt_at o ry hy
    obtain ⟨b, rfl, hb⟩ := keyT_of o rx hx
    refine ⟨a, valV us k, rfl, DGet.t h1 hb, ?_⟩
    rw [get_isSome z k]
    exact h.here o _ (.bl _)
  · exact h.elim
theorem od_notInT (hu : X.A.units + 65 < cLine) : OpD X T W (compareOp .NotIn) (inT true) := by
  refine ⟨_, op_notInDict (by omega), fun g S σ x y vx vy Q o rx ry h => ?_⟩
  unfold inT at h
  split at h
  · rename_i j kvs k hy hx
    obtain ⟨a, us, rfl, _, _, h1, z⟩ := dt_at o ry hy
    obtain ⟨b, rfl, hb⟩ := keyT_of o rx hx
    refine ⟨a, valV us k, rfl, DGet.t h1 hb, ?_⟩
    rw [get_isSome z k]
    exact h.here o _ (.bl _)
  · exact h.elim
/-! ### stores o[i] = v -/
def setL (xs : List D) (i v : D) : Option MO := match i with
  | .int j => (match ixN xs.length j with
    | some n => some (.lst (xs.set n v))
    | none => none)
  | _ => none
def setT (kvs : List (List L2.Key × D)) (i v : D) : Option MO := match keyT i with
  | some ks => if kvs.length < sizeLine then some (.dT (putKD kvs ks v)) else none
  | none => none
def setM (m : MO) (i v : D) : Option MO := match m with
  | .lst xs => setL xs i v
  | .dT kvs => setT kvs i v
  | _ => none
def setIx (x i v : D) (S : Sto) : Option Sto := match x with
  | .obj k => (match S[k]? with
    | some m => (match setM m i v with
      | some m' => some (S.set k m')
      | none => none)
    | none => none)
  | _ => none
def rSetB : TSet := fun o i v H Q => rSetL o i v H Q ∨ rSetD o i v H Q
theorem set_both (hu : X.A.units + 2 < cLine) : PSet X rSetB := by
  intro pins s σ H o i v ov iv u Q I ro ri rv h
  rcases h with h | h
  · exact set_list pins s σ H o i v ov iv u Q I ro ri rv h
  · exact set_dict (by omega) pins s σ H o i v ov iv u Q I ro ri rv h
theorem setIx_ok {w : Wd} {g : G} {S S' : Sto} {x i v : D} {vx vi vv : V} {Q : Hp → Prop} (o : Ok w g S) (rx : Rep w g.F g.A x vx) (ri : Rep w g.F g.A i vi) (rv : Rep w g.F g.A v vv) (h : setIx x i v S = some S')
    (q : ∀ g', Ext g g' → Ok w g' S' → Q g'.H) : rSetB vx vi vv g.H Q := by
  cases rx with
  | obj k a hk =>
    unfold setIx at h
    dsimp only at h
    cases hS : S[k]? with
    | none => rw [hS] at h; cases h
    | some m =>
      rw [hS] at h
      dsimp only at h
      cases hm : setM m i v with
      | none => rw [hm] at h; cases h
      | some m' =>
        rw [hm] at h
        cases h
        cases m with
        | lst xs =>
          obtain ⟨vs, h1, h2⟩ := o.mo k a _ hk hS
          have hm : setL xs i v = some m' := hm
          cases ri with
          | int j =>
            unfold setL at hm
            dsimp only at hm
            cases hn : ixN xs.length j with
            | none => rw [hn] at hm; cases hm
            | some n =>
              rw [hn] at hm
              cases hm
              obtain ⟨n1, n2⟩ := not_code h1 rfl
              refine .inl ⟨a, vs, j, n, rfl, rfl, h1, by rw [← h2.length]; exact hn, ?_⟩
              exact q ⟨g.F, g.A, upd g.H a (.lst (vs.set n vv))⟩ (Ext.write (List.mem_of_getElem? hk)) (o.write hk hS (fun z => nomatch z) n1 n2 ⟨_, upd_same, h2.set rv n⟩)
          | _ => cases hm
        | dT kvs =>
          have hm : setT kvs i v = some m' := hm
          unfold setT at hm
          split at hm
          · rename_i ks hk2
            split at hm
            · rename_i hl
              cases hm
              obtain ⟨vs, h1, h2⟩ := o.mo k a _ hk hS
              obtain ⟨b, rfl, hb⟩ := keyT_of o ri hk2
              obtain ⟨n1, n2⟩ := not_code h1 rfl
              have z : ZipR w g.F g.A kvs ((kvs.map (·.1)).zip vs) := ⟨vs, rfl, h2⟩
              refine .inr ⟨a, _, rfl, DPut.t h1 hb (by rw [z.length]; exact hl), ?_⟩
              obtain ⟨us, e, r⟩ := z.put rv ks
              exact q ⟨g.F, g.A, upd g.H a (.dT (putK ((kvs.map (·.1)).zip vs) ks vv))⟩ (Ext.write (List.mem_of_getElem? hk)) (o.write hk hS (fun z => nomatch z) n1 n2 ⟨us, by show upd g.H a _ a = _; rw [upd_same, e], r⟩)
            · cases hm
          · cases hm
        | _ => cases hm
  | _ => cases h
def ixS (fo fi fe : EM) : SM := fun δ S => (fe δ S).toS δ fun y S1 => (fo δ S1).toS δ fun x S2 => (fi δ S2).toS δ fun i S3 => match setIx x i y S3 with
  | some S4 => .nx δ S4
  | none => .bad
theorem psd_ix {i : Expr} {fo fi fe : EM} (hu : X.A.units + 65 < cLine) (ho : PD X T W o fo) (hi : PD X T W i fi) (he : PD X T W e fe)
    (ha : ∀ v, assign (.Subscript o i tpos) X.env v = (do
      let ov ← holding [v] (eval o X.env)
      let iv ← holding [v, ov] (eval i X.env)
      standAt tpos
      holding [v, ov, iv] (setItem ov iv v)
      release [v, ov, iv] []) := by intro _; rfl)
    (hs : swapsWithSole [.Subscript o i tpos] e pos.line X.env = pure false := by rfl) (hw : swappedStores [.Subscript o i tpos] e X.env = pure none := by rfl)
    (h1 : (assignEach [.Subscript o i tpos] X.env).map (·.2) = [assign (.Subscript o i tpos) X.env] := by rfl) : PSD X T W (.Assign [.Subscript o i tpos] e pos) (ixS fo fi fe) := by
  obtain ⟨to, po, qo⟩ := ho.ex
  obtain ⟨ti, pi, qi⟩ := hi.ex
  obtain ⟨te, pe, qe⟩ := he.ex
  refine ⟨_, ps_asg pe (pg_sub po pi (set_both (by omega)) ha) hs hw h1, fun g S σ δ E o s h => ?_⟩
  refine qe g S σ δ _ o s ((h.toS s).imp fun y S1 g1 e1 o1 h1 vy ry => ?_)
  refine qo g1 S1 σ δ _ o1 (s.ext e1) ((h1.toS (s.ext e1)).imp fun x S2 g2 e2 o2 h2 vx rx => ?_)
  refine qi g2 S2 σ δ _ o2 (s.ext (e1.trans e2)) ((h2.toS (s.ext (e1.trans e2))).imp fun i S3 g3 e3 o3 h3 vi ri => ?_)
  cases hf : setIx x i y S3 with
  | none => rw [hf] at h3; exact h3.elim
  | some S4 =>
    rw [hf] at h3
    exact setIx_ok o3 (rx.ext e3) ri (ry.ext (e2.trans e3)) hf fun g4 e4 o4 => h3 g4 σ e4 o4 (s.ext (((e1.trans e2).trans e3).trans e4))
/-! ### del d[k] -/
def delT (x i : D) (S : Sto) : Option Sto := match dtOf x S, keyT i with
  | some (k, kvs), some ks => if (getKD kvs ks).isSome = true then some (S.set k (.dT (dropKD kvs ks))) else none
  | _, _ => none
def delS (fo fi : EM) : SM := fun δ S => (fo δ S).toS δ fun x S1 => (fi δ S1).toS δ fun i S2 => match delT x i S2 with
  | some S3 => .nx δ S3
  | none => .bad
theorem psd_delT {i : Expr} {fo fi : EM} (hu : X.A.units + 65 < cLine) (ho : PD X T W o fo) (hi : PD X T W i fi) : PSD X T W (.Delete [.Subscript o i tpos] pos) (delS fo fi) := by
  obtain ⟨to, po, qo⟩ := ho.ex
  obtain ⟨ti, pi, qi⟩ := hi.ex
  refine ⟨_, ps_delT (by omega) po pi, fun g S σ δ E o s h => ?_⟩
  refine qo g S σ δ _ o s ((h.toS s).imp fun x S1 g1 e1 o1 h1 vx rx => ?_)
  refine qi g1 S1 σ δ _ o1 (s.ext e1) ((h1.toS (s.ext e1)).imp fun i S2 g2 e2 o2 h2 vi ri => ?_)
  cases hf : delT x i S2 with
  | none => rw [hf] at h2; exact h2.elim
  | some S3 =>
    rw [hf] at h2
    unfold delT at hf
    split at hf
    · rename_i k kvs ks hx hi
      split at hf
      · rename_i hg
        cases hf
        obtain ⟨a, us, rfl, hk, hS, h3, z⟩ := dt_at o2 (rx.ext e2) hx
        obtain ⟨b, rfl, hb⟩ := keyT_of o2 ri hi
        obtain ⟨n1, n2⟩ := not_code h3 rfl
        obtain ⟨ws, e, r⟩ := z.drop ks
        refine ⟨a, b, us, ks, rfl, rfl, h3, hb, by rw [get_isSome z ks]; exact hg, ?_⟩
        exact h2 ⟨g2.F, g2.A, upd g2.H a (.dT (dropK us ks))⟩ σ (Ext.write (List.mem_of_getElem? hk)) (o2.write hk hS (fun z => nomatch z) n1 n2 ⟨ws, by show upd g2.H a _ a = _; rw [upd_same, e], r⟩) (s.ext ((e1.trans e2).trans (Ext.write (List.mem_of_getElem? hk))))
      · cases hf
    · cases hf
/-! ### new dicts -/
def newDT : EM := fun _ S => .ok (.obj S.length) (S ++ [.dT []])
theorem pd_newDT : PD X T W (.Dict [] [] pos) newDT := by
  refine pd_of pe_dnewT fun g S σ δ Q o s h p hp => ?_
  refine h (g.new p (.dT [])) (Ext.new hp) (o.new hp (m := .dT []) ⟨[], upd_same, .nil⟩) _ (.obj _ p ?_)
  show (g.A ++ [p])[S.length]? = some p
  rw [List.getElem?_append_right (by rw [o.len]; exact Nat.le_refl _), o.len, Nat.sub_self]
  rfl
def pairsD : List D → Option (List (List L2.Key × D))
  | [] => some []
  | .tup [k, v] :: r => match keyT k, pairsD r with
    | some ks, some l => some ((ks, v) :: l)
    | _, _ => none
  | _ => none
theorem pairsD_of {w : Wd} {K : PySem.W.Frag} {g : G} {S : Sto} (o : Ok w g S) : ∀ {ds : List D} {vs : List V} {prs : List (List L2.Key × D)}, Reps w g.F g.A ds vs → pairsD ds = some prs →
    ∃ (ps : List (Addr × Addr)) (kvs : List (List L2.Key × V)), vs = ps.map (fun p => V.ref p.1) ∧ ZipR w g.F g.A prs kvs ∧ Paired (fun p kv => SqT K g.H p.1 [V.ref p.2, kv.2] ∧ g.H p.2 = some (.tup (kv.1.map kV))) ps kvs
  | [], _, prs, .nil, h => by cases h; exact ⟨[], [], rfl, .nil, .nil⟩
  | d :: ds, _, prs, .cons _ v _ vs r t, h => by
    unfold pairsD at h
    split at h
    · rename_i e
      cases e
    · rename_i k u r' e
      cases e
      split at h
      · rename_i ks l hk hl
        cases h
        obtain ⟨ps, kvs, e1, z, pr⟩ := pairsD_of (K := K) o t hl
        cases r with
        | tup _ a us h1 h2 =>
          obtain ⟨vk, vu, rfl, r1, r2⟩ := two_arg h2
          obtain ⟨b, rfl, hb⟩ := keyT_of o r1 hk
          exact ⟨(a, b) :: ps, (ks, vu) :: kvs, by rw [e1]; rfl, .cons r2 z, .cons ⟨SqT.of (o.sub _ _ h1), hb⟩ pr⟩
      · cases h
    · cases h
def dictD (ds : List D) (S : Sto) : R D := match ds with
  | [d] => match asL d S with
    | some xs => match pairsD xs with
      | some prs => .ok (.obj S.length) (S ++ [.dT (mergeD [] prs)])
      | none => .bad
    | none => .bad
  | _ => .bad
theorem cd_dict (hcalm : X.calm = true) (hu : X.A.units + 65 < cLine) : CallD X T W (.type "dict") dictD := by
  refine ⟨_, call_dictPT hcalm (by omega), fun g S σ ds vs Q o rs h => ?_⟩
  unfold dictD at h
  split at h
  · obtain ⟨v, rfl, r⟩ := one_arg rs
    split at h
    · rename_i xs hx
      split at h
      · rename_i prs hp
        obtain ⟨a, us, rfl, h1, h2⟩ := lst_of o r hx
        obtain ⟨ps, kvs, e1, z, pr⟩ := pairsD_of (K := X.K) o h2 hp
        subst e1
        refine ⟨a, ps, kvs, rfl, SqL.of h1, pr, fun p hp => ?_⟩
        obtain ⟨ws, e, r'⟩ := ZipR.merge z (ZipR.nil (w := wd X T) (F := g.F) (A := g.A))
        refine h (g.new p (.dT (mergeT [] kvs))) (Ext.new hp) (o.new hp (m := .dT (mergeD [] prs)) ⟨ws, by show upd g.H p _ p = _; rw [upd_same, e], r'.ext (Ext.new hp)⟩) _ (.obj _ p ?_)
        show (g.A ++ [p])[S.length]? = some p
        rw [List.getElem?_append_right (by rw [o.len]; exact Nat.le_refl _), o.len, Nat.sub_self]
        rfl
      · exact h.elim
    · exact h.elim
  · exact h.elim
end
end L3
set_option Elab.async false
set_option linter.all false
set_option maxRecDepth 100000
set_option maxHeartbeats 2000000
set_option autoImplicit false
/-! methods of lists; targets that are attributes -/
namespace L3
open PySem PySem.Spec PyProof.Rows L2

section
variable {X : Cx} {T : List (Addr × Str)} {W : WX} {a b c e o : Expr} {es rest : List Expr} {pos p tpos apos cpos p2 : Pos} {tg : Expr}
/-! ### methods of lists -/
def MtD (X : Cx) (T : List (Addr × Str)) (W : WX) (id : String) (φ : D → List D → Sto → R D) : Prop :=
  ∃ r : V → List V → Hp → VK → Prop, MtR X id r ∧ ∀ (g : G) (S : Sto) (σ : L2.St) (d : D) (ds : List D) (v : V) (vs : List V) (Q : VK), Ok (wd X T) g S → Rep (wd X T) g.F g.A d v → Reps (wd X T) g.F g.A ds vs →
    Post (wd X T) W σ g (φ d ds S) (fun d _ g' => ∀ v, Rep (wd X T) g'.F g'.A d v → Q v g'.H) → r v vs g.H Q
def mthD (φ : D → List D → Sto → R D) (fo : EM) (u : AM) : EM := fun δ S => (fo δ S).bind fun d S1 => if (asL d S1).isSome = true then (u δ S1).bind fun ds S2 => φ d ds S2 else .bad
def mth0D (φ : D → List D → Sto → R D) (fo : EM) : EM := fun δ S => (fo δ S).bind fun d S1 => if (asL d S1).isSome = true then φ d [] S1 else .bad
theorem tyV_list {w : Wd} {g : G} {S : Sto} {d : D} {v : V} (o : Ok w g S) (r : Rep w g.F g.A d v) (h : (asL d S).isSome = true) : tyV w.K "list" v g.H := by
  obtain ⟨ds, hd⟩ := Option.isSome_iff_exists.mp h
  obtain ⟨a, vs, rfl, h1, _⟩ := lst_of o r hd
  exact .inl ⟨rfl, vs, SqL.of h1⟩
theorem pd_mth {name : Str} {id : String} {φ : D → List D → Sto → R D} {fo : EM} {u : AM} (slot : Slot "list" name id) (hty : typeOf (.builtin id) = pure (.type "method_descriptor")) (hm : MtD X T W id φ) (ho : PD X T W o fo) (ha : PAD X T W (e :: es) u)
    (hbase : attributeBase o name X.env (eval o X.env) = eval o X.env := by rfl)
    (hfew : ((backTo cpos (starEach (e :: es) X.env)).all (fun x => !x.1) && (backToKw cpos (keywordEach [] X.env)).all (fun x => x.1.isSome)
      && decide ((e :: es).length + ([] : List Keyword).length + (if ([] : List Keyword).isEmpty then 0 else 1) < 30)) = true := by rfl)
    (hline : (apos.endLine == cpos.line) = true := by rfl) (hs : starEach (e :: es) X.env = (false, eval e X.env) :: starEach es X.env := by rfl) (hplain : (backTo cpos (starEach es X.env)).any (·.1) = false := by rfl) :
    PD X T W (.Call (.Attribute o name apos) (e :: es) [] cpos) (mthD φ fo u) := by
  obtain ⟨r, hr, qr⟩ := hm
  obtain ⟨to, po, qo⟩ := ho.ex
  obtain ⟨t, pa, q⟩ := ha.ex
  refine pd_of (pe_bm PySem.F.plainAttrs_list slot hty hr po pa hbase hfew hline hs hplain) fun g S σ δ Q o s h => ?_
  refine qo g S σ δ _ o s (h.bind.imp fun d S1 g1 e1 o1 h1 v rv => ?_)
  split at h1
  · rename_i hl
    refine ⟨tyV_list o1 rv hl, ?_⟩
    exact q g1 S1 σ δ _ o1 (s.ext e1) (h1.bind.imp fun ds S2 g2 e2 o2 h2 vs rs => qr g2 S2 σ d ds v vs Q o2 (rv.ext e2) rs h2)
  · exact h1.elim
theorem pd_mth0 {name : Str} {id : String} {φ : D → List D → Sto → R D} {fo : EM} (slot : Slot "list" name id) (hty : typeOf (.builtin id) = pure (.type "method_descriptor")) (hm : MtD X T W id φ) (ho : PD X T W o fo)
    (hbase : attributeBase o name X.env (eval o X.env) = eval o X.env := by rfl) (hline : (apos.endLine == cpos.line) = true := by rfl) : PD X T W (.Call (.Attribute o name apos) [] [] cpos) (mth0D φ fo) := by
  obtain ⟨r, hr, qr⟩ := hm
  obtain ⟨to, po, qo⟩ := ho.ex
  refine pd_of (pe_bm0 PySem.F.plainAttrs_list slot hty hr po hbase hline) fun g S σ δ Q o s h => ?_
  refine qo g S σ δ _ o s (h.bind.imp fun d S1 g1 e1 o1 h1 v rv => ?_)
  split at h1
  · rename_i hl
    exact ⟨tyV_list o1 rv hl, qr g1 S1 σ d [] v [] Q o1 rv .nil h1⟩
  · exact h1.elim
/-- the k-th object, a list -/
def lkOf (d : D) (S : Sto) : Option (Nat × List D) := match d with
  | .obj k => (match S[k]? with
    | some (.lst xs) => some (k, xs)
    | _ => none)
  | _ => none
theorem lk_at {w : Wd} {g : G} {S : Sto} {d : D} {v : V} {k : Nat} {xs : List D} (o : Ok w g S) (r : Rep w g.F g.A d v) (h : lkOf d S = some (k, xs)) : ∃ a vs, v = .ref a ∧ g.A[k]? = some a ∧ S[k]? = some (.lst xs) ∧ g.H a = some (.lst vs) ∧ Reps w g.F g.A xs vs := by
  cases r with
  | obj j a hk =>
    have h : (match S[j]? with | some (.lst xs) => some (j, xs) | _ => none) = some (k, xs) := h
    split at h
    · rename_i l hS
      cases h
      obtain ⟨vs, h1, h2⟩ := o.mo _ a _ hk hS
      exact ⟨a, vs, rfl, hk, hS, h1, h2⟩
    · cases h
  | _ => cases h
theorem lst_write {w : Wd} {g : G} {S : Sto} {k : Nat} {a : Addr} {xs ys : List D} {vs us : List V} (o : Ok w g S) (hk : g.A[k]? = some a) (hS : S[k]? = some (.lst xs)) (h : g.H a = some (.lst vs)) (r : Reps w g.F g.A ys us) :
    Ok w ⟨g.F, g.A, upd g.H a (.lst us)⟩ (S.set k (.lst ys)) ∧ Ext g ⟨g.F, g.A, upd g.H a (.lst us)⟩ := by
  obtain ⟨n1, n2⟩ := not_code h rfl
  exact ⟨o.write hk hS (fun z => nomatch z) n1 n2 ⟨us, upd_same, r⟩, Ext.write (List.mem_of_getElem? hk)⟩
def appD (d : D) (ds : List D) (S : Sto) : R D := match ds, lkOf d S with
  | [y], some (k, xs) => if xs.length < sizeLine then .ok .non (S.set k (.lst (xs ++ [y]))) else .bad
  | _, _ => .bad
theorem md_app : MtD X T W "list.append" appD := by
  refine ⟨_, mt_append, fun g S σ d ds v vs Q o r rs h => ?_⟩
  unfold appD at h
  split at h
  · rename_i y k xs hl
    split at h
    · rename_i hz
      obtain ⟨v', rfl, r'⟩ := one_arg rs
      obtain ⟨a, us, rfl, hk, hS, h1, h2⟩ := lk_at o r hl
      obtain ⟨o', e'⟩ := lst_write o hk hS h1 (h2.append (.one r'))
      exact ⟨a, us, v', rfl, rfl, h1, by rw [← h2.length]; exact hz, h _ e' o' _ .non⟩
    · exact h.elim
  · exact h.elim
def popD (d : D) (ds : List D) (S : Sto) : R D := match ds, lkOf d S with
  | [], some (k, xs) => (match xs[xs.length - 1]? with
    | some y => .ok y (S.set k (.lst xs.dropLast))
    | none => .bad)
  | _, _ => .bad
theorem Reps.dropLast {w : Wd} {F : Hp} {A : List Addr} {ds : List D} {vs : List V} (r : Reps w F A ds vs) : Reps w F A ds.dropLast vs.dropLast := by
  rw [List.dropLast_eq_take, List.dropLast_eq_take, r.length]
  exact r.take _
theorem md_pop : MtD X T W "list.pop" popD := by
  refine ⟨_, mt_pop, fun g S σ d ds v vs Q o r rs h => ?_⟩
  unfold popD at h
  split at h
  · rename_i k xs hl
    split at h
    · rename_i y hy
      cases rs
      obtain ⟨a, us, rfl, hk, hS, h1, h2⟩ := lk_at o r hl
      obtain ⟨o', e'⟩ := lst_write o hk hS h1 h2.dropLast
      obtain ⟨u, hu, ru⟩ := h2.get hy
      exact ⟨a, us, u, rfl, rfl, h1, by rw [← h2.length]; exact hu, h _ e' o' _ (ru.ext e')⟩
    · exact h.elim
  · exact h.elim
def rRemD (K : PySem.W.Frag) : V → List V → Hp → VK → Prop := fun x vs H Q => ∃ (l : Addr) (xs : List V) (y : V) (ps : List PyData) (d : PyData) (j : Nat), x = .ref l ∧ vs = [y] ∧ H l = some (.lst xs) ∧ DpAll K H xs ps ∧ Dp K H y d ∧
  PyData.plainAll ps = true ∧ d.plain = true ∧ d.depth ≤ 60 ∧ SeqAt.dataPlace ps d = some j ∧ Q .non (upd H l (.lst (xs.eraseIdx j)))
theorem mt_remD (hu : X.A.units + 65 < cLine) : MtR X "list.remove" (rRemD X.K) := by
  intro pins s σ H x vs v us Q I rx rv h
  obtain ⟨l, xs, y, ps, d, j, rfl, rfl, hH, hps, hy, hp1, hp2, hp3, hj, q⟩ := h
  cases rx
  obtain ⟨u, rfl, ru⟩ := rv.one
  obtain ⟨z, its, n, r, hl, e⟩ := I.lstM hH
  obtain ⟨as, r1⟩ := Dp.readsAll I ps xs its hps r
  obtain ⟨bs, r2⟩ := Dp.reads I d y u hy ru
  refine SeqAt.remove_list_data (vs := its.toArray) (j := j) ⟨_, e, rfl, n, rfl⟩ (show ReadsAll s.heap its.toArray.toList ps as from r1) r2 hp1 hp2 (by omega) hj (by rw [List.size_toArray]; omega) ?_
  refine ⟨.non, _, I.lset (its' := its.eraseIdx j) (t' := s.toks) hH e ?_ (r.eraseIdx j) ?_, rfl, q⟩
  · show its.toArray.eraseIdxIfInBounds j = (its.eraseIdx j).toArray
    rw [List.eraseIdxIfInBounds_toArray]
  · have z2 := len_erase xs j
    omega
def remD (d : D) (ds : List D) (S : Sto) : R D := match ds, lkOf d S with
  | [y], some (k, xs) => (match D.pyL xs, y.py with
    | some ps, some p => (match SeqAt.dataPlace ps p with
      | some j => if PyData.plainAll ps = true ∧ p.plain = true ∧ p.depth ≤ 60 then .ok .non (S.set k (.lst (xs.eraseIdx j))) else .bad
      | none => .bad)
    | _, _ => .bad)
  | _, _ => .bad
theorem md_rem (hu : X.A.units + 65 < cLine) : MtD X T W "list.remove" remD := by
  refine ⟨_, mt_remD hu, fun g S σ d ds v vs Q o r rs h => ?_⟩
  unfold remD at h
  split at h
  · rename_i y k xs hl
    split at h
    · rename_i ps p hps hp
      split at h
      · rename_i j hj
        split at h
        · rename_i hc
          obtain ⟨v', rfl, r'⟩ := one_arg rs
          obtain ⟨a, us, rfl, hk, hS, h1, h2⟩ := lk_at o r hl
          obtain ⟨o', e'⟩ := lst_write o hk hS h1 (h2.erase j)
          exact ⟨a, us, v', ps, p, j, rfl, rfl, h1, h2.dp o.sub hps, r'.dp o.sub hp, hc.1, hc.2.1, hc.2.2, hj, h _ e' o' _ .non⟩
        · exact h.elim
      · exact h.elim
    · exact h.elim
  · exact h.elim

/-! ### targets that write the store -/
abbrev HM := D → EnvD → Sto → Option (EnvD × Sto)
abbrev HMs := List D → EnvD → Sto → Option (EnvD × Sto)
structure PHD (X : Cx) (T : List (Addr × Str)) (tg : Expr) (β : HM) : Prop where
  ex : ∃ t : TG, PG X tg t ∧ ∀ (g : G) (S S' : Sto) (σ : L2.St) (δ δ' : EnvD) (d : D) (v : V) (Q : L2.St → Hp → Prop), Ok (wd X T) g S → SRep (wd X T) g δ σ → Rep (wd X T) g.F g.A d v → β d δ S = some (δ', S') →
    (∀ g' σ', Ext g g' → Ok (wd X T) g' S' → SRep (wd X T) g' δ' σ' → Q σ' g'.H) → t v σ g.H Q
structure PHsD (X : Cx) (T : List (Addr × Str)) (tgs : List Expr) (β : HMs) : Prop where
  ex : ∃ t : TGs, PGs X tgs t ∧ ∀ (g : G) (S S' : Sto) (σ : L2.St) (δ δ' : EnvD) (ds : List D) (us : List V) (Q : L2.St → Hp → Prop), Ok (wd X T) g S → SRep (wd X T) g δ σ → Reps (wd X T) g.F g.A ds us → β ds δ S = some (δ', S') →
    (∀ g' σ', Ext g g' → Ok (wd X T) g' S' → SRep (wd X T) g' δ' σ' → Q σ' g'.H) → t us σ g.H Q
def hOf (β : BM) : HM := fun d δ S => match β d δ with
  | some δ' => some (δ', S)
  | none => none
theorem phd_of {vs : List Nat} {β : BM} (h : PGD X T tg vs β) : PHD X T tg (hOf β) := by
  obtain ⟨t, p, q⟩ := h.ex
  refine ⟨t, p, fun g S S' σ δ δ' d v Q o s r hb k => ?_⟩
  unfold hOf at hb
  split at hb
  · rename_i δ1 hd
    cases hb
    exact q g S σ δ _ d v Q o s r hd fun σ' s' _ => k g σ' (Ext.refl g) o s'
  · cases hb
def gFld (K : PySem.W.Frag) (ta : TE) (f : Str) : TG := fun y σ H Q => ta σ H fun x H2 => ∃ a C dx fs, x = .ref a ∧ H2 a = some (.ins C dx fs) ∧ Cls K C ∧ NoAttr K C f ∧ fs.length < 1000 ∧ Q σ (upd H2 a (.ins C dx (putF f y fs)))
theorem pg_fld {f : Str} {ta : TE} (ha : PE X o ta)
    (hg : ∀ v, assign (.Attribute o f apos) X.env v = (do
      let ov ← holding [v] (eval o X.env)
      standAt apos.atName
      holding [v, ov] (setAttr ov f v)
      release [v, ov] []) := by intro _; rfl) : PG X (.Attribute o f apos) (gFld X.K ta f) := by
  refine ⟨fun pins s σ H v u Q I r h => ?_⟩
  rw [hg]
  refine wpAny_bind (wpAny_holding (thn (ha.run pins s σ H _ I h) fun ov s1 ⟨x, H1, I1, rx, a, C, dx, fs, ex, ea, c, n, l, q⟩ => ?_))
  subst ex
  obtain rfl : ov = Value.ref a := rx
  refine wpAny_bind (wpAny_standAt (wpAny_bind (wpAny_holding (setattr_ok I1 ea c n l r fun s2 I2 => ?_))))
  exact wpAny_release ⟨σ, _, I2, q⟩
end
end L3
namespace L3
open PySem PySem.Spec PyProof.Rows L2
section
variable {X : Cx} {T : List (Addr × Str)} {W : WX} {a b c e o : Expr} {es rest : List Expr} {pos p tpos apos cpos p2 : Pos} {tg : Expr}
def hFld (c f : Str) (fo : EM) : HM := fun y δ S => match fo δ S with
  | .ok d S1 => (match setFld c f d y S1 with
    | some S2 => some (δ, S2)
    | none => none)
  | _ => none
theorem phd_fld {c f : Str} {C : Addr} {fo : EM} (hc : X.mg c = some (.ref C)) (cl : Cls X.K C) (na : NoAttr X.K C f) (ho : PD X T W o fo) : PHD X T (.Attribute o f apos) (hFld c f fo) := by
  obtain ⟨to, po, qo⟩ := ho.ex
  refine ⟨_, pg_fld po (fun v => arm_assign_Attribute o f apos X.env v), fun g S S' σ δ δ' y vy Q o s ry hb k => ?_⟩
  refine qo g S σ δ _ o s ?_
  unfold hFld at hb
  cases hf : fo δ S with
  | bad => rw [hf] at hb; cases hb
  | exc x S1 => rw [hf] at hb; cases hb
  | ok d S1 =>
    rw [hf] at hb
    dsimp only at hb
    intro g1 e1 o1 v r
    cases h2 : setFld c f d y S1 with
    | none => rw [h2] at hb; cases hb
    | some S2 =>
      rw [h2] at hb
      cases hb
      obtain ⟨a, dx, fs, rfl, h3, h4, o3, e3⟩ := setFld_ok o1 hc r (ry.ext e1) h2
      exact ⟨a, C, dx, fs, rfl, h3, cl, na, h4, k _ σ (e1.trans e3) o3 (s.ext (e1.trans e3))⟩
def hNil : HMs := fun ds δ S => match ds with
  | [] => some (δ, S)
  | _ => none
def hCons (β : HM) (γ : HMs) : HMs := fun ds δ S => match ds with
  | d :: r => (match β d δ S with
    | some (δ', S') => γ r δ' S'
    | none => none)
  | [] => none
theorem phsd_nil : PHsD X T [] hNil := by
  refine ⟨_, pgs_nil, fun g S S' σ δ δ' ds us Q o s r hb q => ?_⟩
  cases r with
  | nil => cases hb; exact ⟨rfl, q g σ (Ext.refl g) o s⟩
  | cons => cases hb
theorem phsd_cons {tgs : List Expr} {β : HM} {γ : HMs} (h1 : PHD X T tg β) (h2 : PHsD X T tgs γ)
    (hs : (assignEach (tg :: tgs) X.env).map (·.2) = assign tg X.env :: (assignEach tgs X.env).map (·.2) := by rfl) : PHsD X T (tg :: tgs) (hCons β γ) := by
  obtain ⟨t, p, q⟩ := h1.ex
  obtain ⟨t2, p2, q2⟩ := h2.ex
  refine ⟨_, pgs_cons p p2 hs, fun g S S' σ δ δ' ds ws Q o s r hb k => ?_⟩
  cases r with
  | nil => cases hb
  | cons d v ds ws h t =>
    unfold hCons at hb
    dsimp only at hb
    split at hb
    · rename_i δ1 S1 hd
      refine ⟨v, ws, rfl, q g S S1 σ δ δ1 d v _ o s h hd fun g1 σ1 e1 o1 s1 => ?_⟩
      exact q2 g1 S1 S' σ1 δ1 δ' ds ws Q o1 s1 (t.ext e1) hb fun g2 σ2 e2 o2 s2 => k g2 σ2 (e1.trans e2) o2 s2
    · cases hb
def hTup (γ : HMs) : HM := fun d δ S => match d with
  | .tup ds => γ ds δ S
  | _ => none
def lenH (γ : HMs) (n : Nat) : Prop := ∀ ds δ S r, γ ds δ S = some r → ds.length = n
theorem lenH_nil : lenH hNil 0 := fun ds δ S r h => by
  cases ds with
  | nil => rfl
  | cons => cases h
theorem lenH_cons {β : HM} {γ : HMs} {n : Nat} (h : lenH γ n) : lenH (hCons β γ) (n + 1) := fun ds δ S r q => by
  cases ds with
  | nil => cases q
  | cons d ds =>
    unfold hCons at q
    dsimp only at q
    split at q
    · rename_i δ1 S1 _
      simp [h ds δ1 S1 r q]
    · cases q
theorem phd_tup {n k : Nat} {tgs : List Expr} {γ : HMs} (hc : X.calm = true) (h : PHsD X T tgs γ) (hl : lenH γ n)
    (hn : (assignEach tgs X.env).length = n := by rfl) (hst : (assignEach tgs X.env).findIdx? (·.1) = none := by rfl) : PHD X T (.Tuple tgs k pos) (hTup γ) := by
  obtain ⟨t, p, q⟩ := h.ex
  refine ⟨_, pg_tup hc p hn hst, fun g S S' σ δ δ' d v Q o s r hb k => ?_⟩
  cases r with
  | tup ds a us h1 h2 =>
    refine ⟨a, us, rfl, SqT.of (o.sub _ _ h1), ?_, q g S S' σ δ δ' ds us Q o s h2 hb k⟩
    rw [← h2.length]
    exact hl ds δ S _ hb
  | _ => cases hb
def asgH (f : EM) (β : HM) : SM := fun δ S => (f δ S).toS δ fun d S1 => match β d δ S1 with
  | some (δ', S2) => .nx δ' S2
  | none => .bad
theorem psd_asgH {f : EM} {β : HM} (he : PD X T W e f) (hg : PHD X T tg β) (hs : swapsWithSole [tg] e pos.line X.env = pure false := by rfl) (hw : swappedStores [tg] e X.env = pure none := by rfl)
    (h1 : (assignEach [tg] X.env).map (·.2) = [assign tg X.env] := by rfl) : PSD X T W (.Assign [tg] e pos) (asgH f β) := by
  obtain ⟨t, p, q⟩ := he.ex
  obtain ⟨t2, p2, q2⟩ := hg.ex
  refine ⟨_, ps_asg p p2 hs hw h1, fun g S σ δ E o s h => ?_⟩
  refine q g S σ δ _ o s ((h.toS s).imp fun d S1 g1 e1 o1 h1 v r => ?_)
  split at h1
  · rename_i δ' S2 hb
    exact q2 g1 S1 S2 σ δ δ' d v _ o1 (s.ext e1) r hb fun g2 σ' e2 o2 s' => h1 g2 σ' e2 o2 s'
  · exact h1.elim
end
end L3
set_option Elab.async false
set_option linter.all false
set_option maxRecDepth 100000
set_option maxHeartbeats 2000000
set_option autoImplicit false
/-! three at once; operators of any kind; the law's end -/
namespace L3
open PySem PySem.Spec PyProof.Rows L2

section
variable {X : Cx} {T : List (Addr × Str)} {W : WX} {a b c e o : Expr} {es rest : List Expr} {pos p tpos apos cpos p2 : Pos} {tg : Expr}
def par3S (i j l : Nat) (u : AM) : SM := fun δ S => (u δ S).toS δ fun ds S1 => match ds with
  | [d, d', d''] => .nx (((δ.set i (some d)).set j (some d')).set l (some d'')) S1
  | _ => .bad
theorem psd_par3 {i j l : Nat} {x y z : Str} {u : AM} {px py pz pt : Pos} {kt k2 : Nat} {pt2 : Pos} (hc : X.calm = true) (hN : X.N.Nodup) (ha : PAD X T W [a, b, c] u) (hij : i ≠ j := by decide) (hil : i ≠ l := by decide) (hjl : j ≠ l := by decide) (hi : X.N[i]? = some x := by rfl) (hj : X.N[j]? = some y := by rfl) (hl : X.N[l]? = some z := by rfl)
    (hx : X.env.scope.names.lookup x = some .local := by rfl) (hy : X.env.scope.names.lookup y = some .local := by rfl) (hz : X.env.scope.names.lookup z = some .local := by rfl)
    (hw : swappedStores [.Tuple [.Name x px, .Name y py, .Name z pz] kt pt] (.Tuple [a, b, c] k2 pt2) X.env = pure (some [x, y, z]) := by rfl)
    (hs : swapsWithSole [.Tuple [.Name x px, .Name y py, .Name z pz] kt pt] (.Tuple [a, b, c] k2 pt2) pos.line X.env = pure false := by rfl) :
    PSD X T W (.Assign [.Tuple [.Name x px, .Name y py, .Name z pz] kt pt] (.Tuple [a, b, c] k2 pt2) pos) (par3S i j l u) := by
  obtain ⟨t, p, q⟩ := ha.ex
  refine ⟨_, ps_par3 hc hN hi hj hl hij hil hjl hx hy hz p hw hs, fun g S σ δ E o s h => ?_⟩
  refine q g S σ δ _ o s ((h.toS s).imp fun ds S1 g1 e1 o1 h1 vs r => ?_)
  match ds, vs, r, h1 with
  | [d, d', d''], _, .cons _ v _ _ r1 (.cons _ v' _ _ r2 (.cons _ v'' _ _ r3 .nil)), h1 => exact ⟨v, v', v'', rfl, h1 g1 _ (Ext.refl g1) o1 ((((s.ext e1).set r1 i).set r2 j).set r3 l)⟩
  | [], _, _, h1 => exact h1.elim
  | [_], _, _, h1 => exact h1.elim
  | [_, _], _, _, h1 => exact h1.elim
  | _ :: _ :: _ :: _ :: _, _, _, h1 => exact h1.elim
/-! ### operators of any kind -/
def addA (x y : D) (S : Sto) : R D := orR (addI x y S) (orR (addS x y S) (orR (addT x y S) (addL x y S)))
theorem od_add : OpD X T W (binaryOp .Add) addA := od_addI.or (od_addS.or (od_addT.or od_addL))
def mulA (x y : D) (S : Sto) : R D := orR (mulI x y S) (orR (mulT x y S) (mulL x y S))
theorem od_mul : OpD X T W (binaryOp .Mult) mulA := od_mulI.or (od_mulT.or od_mulL)
def ltA (x y : D) (S : Sto) : R D := orR (ltI x y S) (orR (strC (fun a b => decide (a < b)) x y S) (ltT x y S))
theorem od_lt (hu : X.A.units + 65 < cLine) : OpD X T W (compareOp .Lt) ltA := od_ltI.or (od_ltS.or (od_ltT hu))
def leA (x y : D) (S : Sto) : R D := orR (leI x y S) (strC (fun a b => !decide (b < a)) x y S)
theorem od_le : OpD X T W (compareOp .LtE) leA := od_leI.or od_leS
def inA (neg : Bool) (x y : D) (S : Sto) : R D := orR (inT neg x y S) (orR (inQ neg x y S) (inS neg x y S))
theorem od_in (hu : X.A.units + 65 < cLine) : OpD X T W (compareOp .In) (inA false) := (od_inT hu).or ((od_inQ hu).or od_inS)
theorem od_notIn (hu : X.A.units + 65 < cLine) : OpD X T W (compareOp .NotIn) (inA true) := (od_notInT hu).or ((od_notInQ hu).or od_notInS)
def isA (x y : D) (S : Sto) : R D := orR (isN false x y S) (isB x y S)
theorem od_is : OpD X T W (compareOp .Is) isA := od_isN.or od_isB
def sortA (B : Int) (ds : List D) (S : Sto) : R (List D) := orR (sortTD B ds S) (sortDD B ds S)
theorem cd_sort (B : Int) (hc : X.calm = true) : CallLD X T W (.builtin "sorted") (sortA B) := (cd_sortT B).or (cd_sortD B hc)
end
/-! ### what the top has written -/
structure DefT (K : PySem.W.Frag) (x qual : Str) (st : Stmt) (ps : List Str) where
  f : Addr
  fd : FuncData
  F : Fun K x qual st f fd
  b : Binds K fd ps []
structure TopT (K : PySem.W.Frag) (mg : Str → Option Value) (x : Str) (st : Stmt) (ps : List Str) extends DefT K x x st ps where
  g : mg x = some (.ref f)
structure ClsT (K : PySem.W.Frag) (mg : Str → Option Value) (c : Str) where
  C : Addr
  g : mg c = some (.ref C)
  cl : Cls K C
structure MethT (K : PySem.W.Frag) (C : Addr) (x qual : Str) (st : Stmt) (ps : List Str) extends DefT K x qual st ps where
  m : Meth K C x f
theorem bad_ok {P : Program} {w : World} {K : PySem.W.Frag} {mg : Str → Option Value} {base : Heap} {T : List (Addr × Str)} {x qual : Str} {st : Stmt} {f : Addr} {fd : FuncData} {N ps : List Str} {k : Nat} (F : Fun K x qual st f fd) (S : FnScope N ps (defScope st)) :
    FnOk P w K mg base (L2.CX P w) (k + 1) f fd ps (spD ⟨K, mg, T⟩ ps.length (fnD N.length (fun _ _ => .bad))) := fun_ok F S fun cdv A outer s H E hr => pssd_never
/-- the law's promise -/
def spLaw (K : PySem.W.Frag) (n : Nat) : Sp := fun vs H Q _ => ∃ (a : Addr) (ns : List Int), vs = [.ref a] ∧ SqL K H a (ns.map V.int) ∧ ns.length ≤ n ∧ ∀ H', Q (.bl true) H'
theorem law_ok {P : Program} {w : World} {K : PySem.W.Frag} {mg : Str → Option Value} {base : Heap} {k n : Nat} {f : Addr} {fd : FuncData} {ps : List Str} {φ : FM} (F : FnOk P w K mg base (L2.CX P w) k f fd ps (spD ⟨K, mg, []⟩ 1 φ))
    (h : ∀ ns : List Int, ns.length ≤ n → ∃ S, φ [.scr ns] [] = .ok (.bl true) S) : FnOk P w K mg base (L2.CX P w) k f fd ps (spLaw K n) := by
  refine F.imp fun vs H Q E q => ?_
  obtain ⟨a, ns, rfl, hS, hl, k⟩ := q
  obtain ⟨S', e⟩ := h ns hl
  refine ⟨⟨H, [], H⟩, [.scr ns], [], rfl, rfl, ⟨fun _ _ h => h, rfl, .nil, (fun _ h => nomatch h), (fun _ _ _ h => by cases h), (fun _ _ _ h => by cases h), (fun _ h => nomatch h)⟩, .one (.scr ns a hS), ?_⟩
  rw [e]
  intro g' v _ _ r
  cases r
  exact k g'.H
theorem cx_end {P : Program} {w : World} {H : Hp} {s : Shared} {e : Value} {s' : Shared} (h : L2.CX P w [] H s (fun _ _ _ => False) e s') : False := by
  obtain ⟨_, _, _, _, _, _, _, _, _, _, _, _, q⟩ := h
  exact q
end L3
set_option Elab.async false
set_option linter.all false
set_option maxRecDepth 100000
set_option maxHeartbeats 2000000
set_option autoImplicit false
/-! the functions run: equations for simp -/
namespace L3
open PySem PySem.Spec PyProof.Rows L2
section
variable (δ : EnvD) (S : Sto) (fa fb fc fo fe f u : EM) (t t' : TM) (au bu : AM) (s s' : SM)
@[simp] theorem e_conE (d : D) : conE d δ S = .ok d S := id rfl
@[simp] theorem e_varE (i : Nat) : varE i δ S = match δ[i]? with | some (some d) => .ok d S | _ => .bad := id rfl
@[simp] theorem e_bin2 (φ : D → D → Sto → R D) : bin2 φ fa fb δ S = (fa δ S).bind fun x S1 => (fb δ S1).bind fun y S2 => φ x y S2 := id rfl
@[simp] theorem e_toB (b : Bool) : toB (.bl b) S = .ok b S := id rfl
@[simp] theorem e_tst : tst f δ S = (f δ S).bind toB := id rfl
@[simp] theorem e_chain3 (φ ψ : D → D → Sto → R D) : chain3 φ ψ fa fb fc δ S = (fa δ S).bind fun x S1 => (fb δ S1).bind fun y S2 => (φ x y S2).bind fun z S3 => (toB z S3).bind fun k S4 => if k = true then (fc δ S4).bind fun u S5 => ψ y u S5 else .ok (.bl false) S4 := id rfl
@[simp] theorem e_andT : andT t t' δ S = (t δ S).bind fun c S1 => if c = true then t' δ S1 else .ok false S1 := id rfl
@[simp] theorem e_orT : orT t t' δ S = (t δ S).bind fun c S1 => if c = true then .ok true S1 else t' δ S1 := id rfl
@[simp] theorem e_notT : notT t δ S = (t δ S).bind fun c S1 => .ok (!c) S1 := id rfl
@[simp] theorem e_andV : andV f u δ S = (tst f δ S).bind fun c S1 => if c = true then u δ S1 else .ok (.bl false) S1 := id rfl
@[simp] theorem e_orV : orV f u δ S = (tst f δ S).bind fun c S1 => if c = true then .ok (.bl true) S1 else u δ S1 := id rfl
@[simp] theorem e_notV : notV f δ S = (tst f δ S).bind fun c S1 => .ok (.bl (!c)) S1 := id rfl
@[simp] theorem e_ifE : ifE t f u δ S = (t δ S).bind fun k S1 => if k = true then f δ S1 else u δ S1 := id rfl
@[simp] theorem e_nilA : nilA δ S = .ok [] S := id rfl
@[simp] theorem e_consA : consA f au δ S = (f δ S).bind fun d S1 => (au δ S1).bind fun ds S2 => .ok (d :: ds) S2 := id rfl
theorem szS {n : Nat} (h : n ≤ 1000) : n ≤ sizeLine := by rw [sizeLine_eq]; omega
@[simp] theorem szc (n : Nat) (h : n ≤ 100 := by decide) : (n ≤ sizeLine) = True := eq_true (szS (by omega))
@[simp] theorem e_tupE : tupE au δ S = (au δ S).bind fun ds S1 => if ds.length ≤ sizeLine then .ok (.tup ds) S1 else .bad := id rfl
@[simp] theorem e_lstE : lstE au δ S = (au δ S).bind fun ds S1 => if ds.length ≤ sizeLine then .ok ds S1 else .bad := id rfl
@[simp] theorem e_frzE : frzE au δ S = (au δ S).bind fun ds S1 => .ok (.lst ds) S1 := id rfl
@[simp] theorem e_newE : newE au δ S = (au δ S).bind fun ds S1 => .ok (.obj S1.length) (S1 ++ [.lst ds]) := id rfl
@[simp] theorem e_newDT : newDT δ S = .ok (.obj S.length) (S ++ [.dT []]) := id rfl
@[simp] theorem e_nxS : nxS δ S = .nx δ S := id rfl
@[simp] theorem e_seqS : seqS s s' δ S = match s δ S with | .nx δ' S' => s' δ' S' | r => r := id rfl
@[simp] theorem e_dropS : dropS f δ S = (f δ S).toS δ fun _ S1 => .nx δ S1 := id rfl
@[simp] theorem e_retS : retS f δ S = (f δ S).toS δ fun d S1 => .rt d S1 := id rfl
@[simp] theorem e_ifS : ifS t s s' δ S = (t δ S).toS δ fun k S1 => if k = true then s δ S1 else s' δ S1 := id rfl
@[simp] theorem e_bName (i : Nat) (d : D) : bName i d δ = some (δ.set i (some d)) := id rfl
@[simp] theorem e_bNil : bNil [] δ = some δ := id rfl
@[simp] theorem e_bCons (β : BM) (γ : BMs) (d : D) (r : List D) : bCons β γ (d :: r) δ = match β d δ with | some δ' => γ r δ' | none => none := id rfl
@[simp] theorem e_bTup (γ : BMs) (ds : List D) : bTup γ (.tup ds) δ = γ ds δ := id rfl
@[simp] theorem e_asgS (β : BM) : asgS f β δ S = (f δ S).toS δ fun d S1 => match β d δ with | some δ' => .nx δ' S1 | none => .bad := id rfl
@[simp] theorem e_setS (i : Nat) : setS i f δ S = (f δ S).toS δ fun d S1 => .nx (δ.set i (some d)) S1 := id rfl
@[simp] theorem e_parS (i j : Nat) : parS i j au δ S = (au δ S).toS δ fun ds S1 => match ds with | [d, d'] => .nx ((δ.set i (some d)).set j (some d')) S1 | _ => .bad := id rfl
@[simp] theorem e_par3S (i j l : Nat) : par3S i j l au δ S = (au δ S).toS δ fun ds S1 => match ds with | [d, d', d''] => .nx (((δ.set i (some d)).set j (some d')).set l (some d'')) S1 | _ => .bad := id rfl
@[simp] theorem e_yesT : yesT δ S = .ok true S := id rfl
@[simp] theorem e_fnD (n : Nat) (ds : List D) : fnD n s ds S = match s (startD n ds) S with | .rt d S' => .ok d S' | .nx _ S' => .ok .non S' | .ex e _ S' => .exc e S' | _ => .bad := id rfl
@[simp] theorem e_startD (n : Nat) (ds : List D) : startD n ds = ds.map some ++ List.replicate (n - ds.length) none := id rfl
@[simp] theorem e_callD (φ : FM) (n : Nat) : callD φ n au δ S = (au δ S).bind fun ds S1 => if ds.length = n then φ ds S1 else .bad := id rfl
@[simp] theorem e_call0D (φ : FM) : call0D φ δ S = noX (φ [] S) := id rfl
@[simp] theorem e_methD (c m : Str) (φ : FM) (n : Nat) : methD c m φ n fo au δ S = (fo δ S).bind fun d S1 => match insOf c d S1 with
  | some fs => if fs.lookup m = none then (au δ S1).bind fun ds S2 => if ds.length + 1 = n then φ (d :: ds) S2 else .bad else .bad
  | none => .bad := id rfl
@[simp] theorem e_meth0D (c m : Str) (φ : FM) : meth0D c m φ fo δ S = (fo δ S).bind fun d S1 => match insOf c d S1 with
  | some fs => if fs.lookup m = none then φ [d] S1 else .bad
  | none => .bad := id rfl
@[simp] theorem e_makeD (c : Str) (φ : FM) (n : Nat) : makeD c φ n au δ S = (au δ S).bind fun ds S1 => if ds.length + 1 = n then (noX (φ (.obj S1.length :: ds) (S1 ++ [.ins c []]))).bind fun d S2 => match d with
  | .non => .ok (.obj S1.length) S2
  | _ => .bad
  else .bad := id rfl
@[simp] theorem e_fldD (c fl : Str) : fldD c fl fo δ S = (fo δ S).bind fun d S1 => match insOf c d S1 with
  | some fs => match fs.lookup fl with
    | some v => .ok v S1
    | none => .bad
  | none => .bad := id rfl
@[simp] theorem e_fldS (c fl : Str) : fldS c fl fo fe δ S = (fe δ S).toS δ fun y S1 => (fo δ S1).toS δ fun d S2 => match setFld c fl d y S2 with
  | some S3 => .nx δ S3
  | none => .bad := id rfl
@[simp] theorem e_insOf (c : Str) (k : Nat) : insOf c (.obj k) S = match S[k]? with
    | some (.ins c' fs) => if c' = c then some fs else none
    | _ => none := id rfl
@[simp] theorem e_setFld (c fl : Str) (k : Nat) (v : D) : setFld c fl (.obj k) v S = match insOf c (.obj k) S with
    | some fs => if fs.length < 1000 then some (S.set k (.ins c (putD fl v fs))) else none
    | none => none := id rfl
@[simp] theorem e_putD (g : Str) (v : D) : putD g v [] = [(g, v)] := id rfl
@[simp] theorem e_putD2 (g h : Str) (v x : D) (r : List (Str × D)) : putD g v ((h, x) :: r) = if h = g then (h, v) :: r else (h, x) :: putD g v r := id rfl
@[simp] theorem e_callM (φ : List D → Sto → R D) : callM φ au δ S = (au δ S).bind φ := id rfl
@[simp] theorem e_callLM (φ : List D → Sto → R (List D)) : callLM φ au δ S = (au δ S).bind φ := id rfl
@[simp] theorem e_asL1 (xs : List D) : asL (.lst xs) S = some xs := id rfl
@[simp] theorem e_asL2 (k : Nat) : asL (.obj k) S = match S[k]? with | some (.lst xs) => some xs | _ => none := id rfl
@[simp] theorem e_asQ1 (xs : List D) : asQ (.lst xs) S = some xs := id rfl
@[simp] theorem e_asQ2 (k : Nat) : asQ (.obj k) S = match S[k]? with | some (.lst xs) => some xs | _ => none := id rfl
@[simp] theorem e_asQ3 (xs : List D) : asQ (.tup xs) S = some xs := id rfl
@[simp] theorem e_asQ4 (xs : List Int) : asQ (.scr xs) S = some (xs.map .int) := id rfl
@[simp] theorem e_lenD (d : D) : lenD [d] S = match lenQ d S with | some n => .ok (.int (n : Nat)) S | none => .bad := id rfl
@[simp] theorem e_lenQ1 (xs : List D) : lenQ (.lst xs) S = some xs.length := id rfl
@[simp] theorem e_lenQ2 (xs : List D) : lenQ (.tup xs) S = some xs.length := id rfl
@[simp] theorem e_lenQ3 (xs : List Int) : lenQ (.scr xs) S = some xs.length := id rfl
@[simp] theorem e_lenQ4 (k : Nat) : lenQ (.obj k) S = match S[k]? with
    | some (.lst xs) => some xs.length
    | some (.dT kvs) => some kvs.length
    | some (.dK kvs) => some kvs.length
    | _ => none := id rfl
@[simp] theorem e_allD (d : D) : allD [d] S = match asL d S with
    | some xs => match boolsOf xs with
      | some bs => .ok (.bl (bs.all id)) S
      | none => .bad
    | none => .bad := id rfl
@[simp] theorem e_absD (i : Int) : absD [.int i] S = .ok (.int (if i < 0 then -i else i)) S := id rfl
@[simp] theorem e_intD (i : Int) : intD [.int i] S = .ok (.int i) S := id rfl
@[simp] theorem e_strD (cs : List Nat) : strD [.str cs] S = .ok (.str cs) S := id rfl
@[simp] theorem e_tupleD (d : D) : tupleD [d] S = match asQ d S with | some xs => .ok (.tup xs) S | none => .bad := id rfl
@[simp] theorem e_listD (d : D) : listD [d] S = match asQ d S with | some xs => .ok xs S | none => .bad := id rfl
@[simp] theorem e_isi (d : D) (n : String) : isiD [d, .ty n] S = match tyName d S with
    | some t => match isTy t n with
      | some b => .ok (.bl b) S
      | none => .bad
    | none => .bad := id rfl
@[simp] theorem e_getQ (xs : List D) (i : Int) : getQ (some xs) i S = match atI xs i with | some d => .ok d S | none => .bad := id rfl
@[simp] theorem e_ix1 (xs : List D) (i : Int) : ixD (.lst xs) (.int i) S = getQ (some xs) i S := id rfl
@[simp] theorem e_ix2 (xs : List D) (i : Int) : ixD (.tup xs) (.int i) S = getQ (some xs) i S := id rfl
@[simp] theorem e_ix3 (k : Nat) (i : Int) : ixD (.obj k) (.int i) S = getQ (asL (.obj k) S) i S := id rfl
@[simp] theorem e_noPart : noPart δ S = .ok none S := id rfl
@[simp] theorem e_somePart : somePart f δ S = (f δ S).bind fun d S1 => match d with | .int i => .ok (some i) S1 | _ => .bad := id rfl
@[simp] theorem e_slE (fl fh : OM) : slE f fl fh δ S = (f δ S).bind fun x S1 => (fl δ S1).bind fun lo S2 => (fh δ S2).bind fun hi S3 => slD x lo hi S3 := id rfl
@[simp] theorem e_slD (xs : List D) (lo hi : Option Int) : slD (.tup xs) lo hi S = .ok (.tup (cutD xs lo hi)) S := id rfl
@[simp] theorem e_addLE : addLE fa fb δ S = (fa δ S).bind fun x S1 => (fb δ S1).bind fun y S2 => catL x y S2 := id rfl
@[simp] theorem e_un1 (φ : D → Sto → R D) : un1 φ f δ S = (f δ S).bind φ := id rfl
@[simp] theorem e_negI (i : Int) : negI (.int i) S = .ok (.int (-i)) S := id rfl
@[simp] theorem e_addI (i j : Int) : addA (.int i) (.int j) S = .ok (.int (i + j)) S := id rfl
@[simp] theorem e_addT (a b : List D) : addA (.tup a) (.tup b) S = if a.length + b.length ≤ sizeLine then .ok (.tup (a ++ b)) S else .bad := by
  show orR (if a.length + b.length ≤ sizeLine then R.ok (D.tup (a ++ b)) S else .bad) (addL (.tup a) (.tup b) S) = _
  split <;> rfl
@[simp] theorem e_addL1 (a b : List D) : addA (.lst a) (.lst b) S = if a.length + b.length ≤ sizeLine then .ok (.lst (a ++ b)) S else .bad := id rfl
@[simp] theorem e_addL2 (k : Nat) (y : D) : addA (.obj k) y S = addL (.obj k) y S := by cases y <;> rfl
@[simp] theorem e_addL (x y : D) : addL x y S = match asL x S, asL y S with
  | some a, some b => if a.length + b.length ≤ sizeLine then .ok (.lst (a ++ b)) S else .bad
  | _, _ => .bad := id rfl
@[simp] theorem e_catL (x y : D) : catL x y S = match asL x S, asL y S with
  | some a, some b => if a.length + b.length ≤ sizeLine then .ok (a ++ b) S else .bad
  | _, _ => .bad := id rfl
@[simp] theorem e_sub (i j : Int) : subI (.int i) (.int j) S = .ok (.int (i - j)) S := id rfl
@[simp] theorem e_mul (i j : Int) : mulA (.int i) (.int j) S = if (-18446744073709551616 < i ∧ i < 18446744073709551616) ∨ (-18446744073709551616 < j ∧ j < 18446744073709551616) then .ok (.int (i * j)) S else .bad := by
  unfold mulA mulI intR
  dsimp only
  split <;> simp_all [mulT, mulL, asL]
@[simp] theorem e_div (i j : Int) : divI (.int i) (.int j) S = if 0 < j ∧ j < 1073741824 then .ok (.int (i / j)) S else .bad := by
  unfold divI intR
  dsimp only
  split <;> simp_all
@[simp] theorem e_mod (i j : Int) : modI (.int i) (.int j) S = if 0 < j then .ok (.int (i % j)) S else .bad := by
  unfold modI intR
  dsimp only
  split <;> simp_all
@[simp] theorem e_pow (i j : Int) : powI (.int i) (.int j) S = if 0 ≤ j ∧ j ≤ 1000000 ∧ i.natAbs < 2 ^ 64 then .ok (.int (i ^ j.toNat)) S else .bad := by
  unfold powI intR
  dsimp only
  split <;> simp_all
@[simp] theorem e_lt (i j : Int) : ltA (.int i) (.int j) S = .ok (.bl (decide (i < j))) S := id rfl
@[simp] theorem e_le (i j : Int) : leA (.int i) (.int j) S = .ok (.bl (decide (i ≤ j))) S := id rfl
@[simp] theorem e_gt (i j : Int) : gtI (.int i) (.int j) S = .ok (.bl (decide (j < i))) S := id rfl
@[simp] theorem e_ge (i j : Int) : geI (.int i) (.int j) S = .ok (.bl (decide (j ≤ i))) S := id rfl
@[simp] theorem e_ltT (a b : List Int) : ltA (wordD a) (wordD b) S = .ok (.bl (HT.lexLt a b)) S := by
  show orR .bad (orR .bad (ltT (wordD a) (wordD b) S)) = _
  unfold ltT wordD
  simp
@[simp] theorem e_eqI (i j : Int) : eqD (.int i) (.int j) S = .ok (.bl (decide (i = j))) S := by
  simp [eqD, pyS, D.py, SeqAt.shaped, PyData.canLay0, PyData.depth, PyData.eqv]
  rfl
@[simp] theorem e_neI (i j : Int) : neD (.int i) (.int j) S = .ok (.bl (!decide (i = j))) S := by
  simp [neD, pyS, D.py, SeqAt.shaped, PyData.canLay0, PyData.depth, PyData.eqv]
  rfl
@[simp] theorem e_neB (i j : Bool) : neD (.bl i) (.bl j) S = .ok (.bl (!(i == j))) S := by
  simp [neD, pyS, D.py, SeqAt.shaped, PyData.canLay0, PyData.depth, PyData.eqv]
theorem str_beq (a b : List Nat) : ((⟨a.toArray⟩ : Str) == ⟨b.toArray⟩) = decide (a = b) := by
  by_cases h : a = b
  · subst h; simp
  · have : (⟨a.toArray⟩ : Str) ≠ ⟨b.toArray⟩ := fun z => h (by injection z with z; simpa using z)
    simp [h, this]
theorem e_eqS (a b : List Nat) (ha : PyData.strOk ⟨a.toArray⟩ = true) (hb : PyData.strOk ⟨b.toArray⟩ = true) : eqD (.str a) (.str b) S = .ok (.bl (decide (a = b))) S := by
  simp [eqD, pyS, D.py, SeqAt.shaped, PyData.canLay0, PyData.depth, PyData.eqv, ha, hb, str_beq]
@[simp] theorem e_isN_non  : isA (.non) .non S = .ok (.bl true) S := id rfl
@[simp] theorem e_isN_bl (b : Bool) : isA (.bl b) .non S = .ok (.bl false) S := id rfl
@[simp] theorem e_isN_int (i : Int) : isA (.int i) .non S = .ok (.bl false) S := id rfl
@[simp] theorem e_isN_str (cs : List Nat) : isA (.str cs) .non S = .ok (.bl false) S := id rfl
@[simp] theorem e_isN_tup (xs : List D) : isA (.tup xs) .non S = .ok (.bl false) S := id rfl
@[simp] theorem e_isN_lst (xs : List D) : isA (.lst xs) .non S = .ok (.bl false) S := id rfl
@[simp] theorem e_isN_obj (k : Nat) : isA (.obj k) .non S = .ok (.bl false) S := id rfl
@[simp] theorem e_isN_scr (ns : List Int) : isA (.scr ns) .non S = .ok (.bl false) S := id rfl
@[simp] theorem e_isB (a b : Bool) : isA (.bl a) (.bl b) S = .ok (.bl (decide (a = b))) S := id rfl
@[simp] theorem e_notN_non  : isN true (.non) .non S = .ok (.bl false) S := id rfl
@[simp] theorem e_notN_bl (b : Bool) : isN true (.bl b) .non S = .ok (.bl true) S := id rfl
@[simp] theorem e_notN_int (i : Int) : isN true (.int i) .non S = .ok (.bl true) S := id rfl
@[simp] theorem e_notN_str (cs : List Nat) : isN true (.str cs) .non S = .ok (.bl true) S := id rfl
@[simp] theorem e_notN_tup (xs : List D) : isN true (.tup xs) .non S = .ok (.bl true) S := id rfl
@[simp] theorem e_notN_lst (xs : List D) : isN true (.lst xs) .non S = .ok (.bl true) S := id rfl
@[simp] theorem e_notN_obj (k : Nat) : isN true (.obj k) .non S = .ok (.bl true) S := id rfl
@[simp] theorem e_notN_scr (ns : List Int) : isN true (.scr ns) .non S = .ok (.bl true) S := id rfl
@[simp] theorem e_mthD (φ : D → List D → Sto → R D) : mthD φ fo au δ S = (fo δ S).bind fun d S1 => if (asL d S1).isSome = true then (au δ S1).bind fun ds S2 => φ d ds S2 else .bad := id rfl
@[simp] theorem e_mth0D (φ : D → List D → Sto → R D) : mth0D φ fo δ S = (fo δ S).bind fun d S1 => if (asL d S1).isSome = true then φ d [] S1 else .bad := id rfl
@[simp] theorem e_appD (k : Nat) (y : D) : appD (.obj k) [y] S = match S[k]? with
    | some (.lst xs) => if xs.length < sizeLine then .ok .non (S.set k (.lst (xs ++ [y]))) else .bad
    | _ => .bad := by
  unfold appD lkOf
  dsimp only
  cases S[k]? with
  | none => rfl
  | some m => cases m <;> rfl
@[simp] theorem e_popD (k : Nat) : popD (.obj k) [] S = match S[k]? with
    | some (.lst xs) => (match xs[xs.length - 1]? with
      | some y => .ok y (S.set k (.lst xs.dropLast))
      | none => .bad)
    | _ => .bad := by
  unfold popD lkOf
  dsimp only
  cases S[k]? with
  | none => rfl
  | some m => cases m <;> rfl
@[simp] theorem e_ixS (fi : EM) : ixS fo fi fe δ S = (fe δ S).toS δ fun y S1 => (fo δ S1).toS δ fun x S2 => (fi δ S2).toS δ fun i S3 => match setIx x i y S3 with
  | some S4 => .nx δ S4
  | none => .bad := id rfl
@[simp] theorem e_delS (fi : EM) : delS fo fi δ S = (fo δ S).toS δ fun x S1 => (fi δ S1).toS δ fun i S2 => match delT x i S2 with
  | some S3 => .nx δ S3
  | none => .bad := id rfl
@[simp] theorem e_asgH (β : HM) : asgH f β δ S = (f δ S).toS δ fun d S1 => match β d δ S1 with | some (δ', S2) => .nx δ' S2 | none => .bad := id rfl
@[simp] theorem e_hTup (γ : HMs) (ds : List D) : hTup γ (.tup ds) δ S = γ ds δ S := id rfl
@[simp] theorem e_hNil : hNil [] δ S = some (δ, S) := id rfl
@[simp] theorem e_hCons (β : HM) (γ : HMs) (d : D) (r : List D) : hCons β γ (d :: r) δ S = match β d δ S with | some (δ', S') => γ r δ' S' | none => none := id rfl
@[simp] theorem e_hFld (c fl : Str) (y : D) : hFld c fl fo y δ S = match fo δ S with
  | .ok d S1 => (match setFld c fl d y S1 with
    | some S2 => some (δ, S2)
    | none => none)
  | _ => none := id rfl
/-! dicts -/
@[simp] theorem e_dtOf (k : Nat) : dtOf (.obj k) S = match S[k]? with | some (.dT kvs) => some (k, kvs) | _ => none := id rfl
@[simp] theorem e_keyT (ds : List D) : keyT (.tup ds) = keysOf ds := id rfl
@[simp] theorem e_keyW (w : List Int) : keyT (wordD w) = some (wordK w) := keysOf_word w
theorem in_dict {x : D} {k : Nat} {ks : List L2.Key} {kvs : List (List L2.Key × D)} (neg : Bool) (hS : S[k]? = some (.dT kvs)) (hx : keyT x = some ks) : inA neg x (.obj k) S = .ok (.bl (if neg then !(getKD kvs ks).isSome else (getKD kvs ks).isSome)) S := by
  unfold inA inT
  simp [hS, hx]
end
/-! ### words as data -/
def wordP (w : List Int) : PyData := .tuple (w.map .int)
theorem pyL_ints : ∀ w : List Int, D.pyL (w.map .int) = some (w.map .int)
  | [] => rfl
  | i :: r => by
    show (match D.py (.int i), D.pyL (r.map .int) with | some a, some l => some (a :: l) | _, _ => none) = _
    rw [pyL_ints r]; rfl
theorem py_word (w : List Int) : D.py (wordD w) = some (wordP w) := by
  show (match D.pyL (w.map .int) with | some l => some (PyData.tuple l) | none => none) = _
  rw [pyL_ints]; rfl
theorem pyL_words : ∀ ws : List (List Int), D.pyL (ws.map wordD) = some (ws.map wordP)
  | [] => rfl
  | w :: r => by
    show (match D.py (wordD w), D.pyL (r.map wordD) with | some a, some l => some (a :: l) | _, _ => none) = _
    rw [py_word, pyL_words r]; rfl
theorem eqvAll_ints : ∀ v w : List Int, PyData.eqvAll (v.map .int) (w.map .int) = decide (v = w)
  | [], [] => by simp [PyData.eqvAll]
  | [], _ :: _ => by simp [PyData.eqvAll]
  | _ :: _, [] => by simp [PyData.eqvAll]
  | a :: v, b :: w => by
    rw [List.map_cons, List.map_cons]
    unfold PyData.eqvAll
    rw [eqvAll_ints v w]
    by_cases h : a = b
    · subst h; simp [PyData.eqv]
    · simp [PyData.eqv, h]
theorem eqv_word (v w : List Int) : PyData.eqv (wordP v) (wordP w) = decide (v = w) := by
  show PyData.eqvAll _ _ = _
  exact eqvAll_ints v w
theorem lay_ints : ∀ w : List Int, PyData.canLayAll0 (w.map .int) = true ∧ PyData.depthAll (w.map .int) = 0
  | [] => ⟨rfl, rfl⟩
  | i :: r => by
    obtain ⟨h1, h2⟩ := lay_ints r
    rw [List.map_cons]
    refine ⟨?_, ?_⟩
    · show (PyData.canLay0 (.int i) && PyData.canLayAll0 (r.map .int)) = true
      rw [h1]; rfl
    · show max (PyData.depth (.int i)) (PyData.depthAll (r.map .int)) = 0
      rw [h2]; rfl
theorem shaped_word (w : List Int) : SeqAt.shaped (wordP w) = true := by
  obtain ⟨h1, h2⟩ := lay_ints w
  show (PyData.canLayAll0 (w.map .int) && decide (PyData.depthAll (w.map .int) + 1 ≤ 64)) = true
  rw [h1, h2]; rfl
theorem lay_words : ∀ ws : List (List Int), PyData.canLayAll0 (ws.map wordP) = true ∧ PyData.depthAll (ws.map wordP) ≤ 1
  | [] => ⟨rfl, Nat.zero_le _⟩
  | w :: r => by
    obtain ⟨h1, h2⟩ := lay_words r
    obtain ⟨k1, k2⟩ := lay_ints w
    rw [List.map_cons]
    refine ⟨?_, ?_⟩
    · show (PyData.canLayAll0 (w.map .int) && PyData.canLayAll0 (r.map wordP)) = true
      rw [h1, k1]; rfl
    · show max (PyData.depthAll (w.map .int) + 1) (PyData.depthAll (r.map wordP)) ≤ 1
      rw [k2]; omega
theorem shaped_words (ws : List (List Int)) : SeqAt.shaped (.list (ws.map wordP)) = true := by
  obtain ⟨h1, h2⟩ := lay_words ws
  show (PyData.canLayAll0 (ws.map wordP) && decide (PyData.depthAll (ws.map wordP) + 1 ≤ 64)) = true
  rw [h1]
  simp only [Bool.true_and, decide_eq_true_eq]
  omega
/-- what can be compared -/
def layL (xs : List D) : Prop := ∃ l, D.pyL xs = some l ∧ SeqAt.shaped (.list l) = true
theorem layL_words (ws : List (List Int)) : layL (ws.map wordD) := ⟨_, pyL_words ws, shaped_words ws⟩
theorem layL_ints (w : List Int) : layL (w.map .int) := by
  refine ⟨_, pyL_ints w, ?_⟩
  obtain ⟨h1, h2⟩ := lay_ints w
  show (PyData.canLayAll0 (w.map .int) && decide (PyData.depthAll (w.map .int) + 1 ≤ 64)) = true
  rw [h1, h2]; rfl
theorem pyL_nil {xs : List D} {l : List PyData} (h : D.pyL xs = some l) : l = [] ↔ xs = [] := by
  cases xs with
  | nil => cases h; simp
  | cons x r =>
    have h : (match D.py x, D.pyL r with | some a, some l => some (a :: l) | _, _ => none) = some l := h
    split at h
    · cases h; simp
    · cases h
theorem eqvAll_nil (l : List PyData) : PyData.eqvAll l [] = decide (l = []) := by cases l <;> simp [PyData.eqvAll]
theorem pyS_list {x : D} {S : Sto} {xs : List D} {l : List PyData} (hx : asL x S = some xs) (h : D.pyL xs = some l) : pyS x S = some (.list l) := by
  cases x with
  | lst ys =>
    cases hx
    show (match D.pyL xs with | some l => some (PyData.list l) | none => none) = _
    rw [h]
  | obj k =>
    show (match asL (.obj k) S with | some xs => (match D.pyL xs with | some l => some (PyData.list l) | none => none) | none => none) = _
    rw [hx]
    dsimp only
    rw [h]
  | _ => cases hx
theorem eq_nil {x : D} {S : Sto} {xs : List D} (hx : asL x S = some xs) (h : layL xs) : eqD x (.lst []) S = .ok (.bl (decide (xs = []))) S := by
  obtain ⟨l, hl, hs⟩ := h
  have e : pyS (.lst []) S = some (.list []) := id rfl
  unfold eqD
  rw [pyS_list hx hl, e]
  dsimp only
  rw [if_pos ⟨hs, rfl⟩]
  show R.ok (D.bl (PyData.eqvAll l [])) S = _
  rw [eqvAll_nil]
  simp [pyL_nil hl]
theorem ne_nil {x : D} {S : Sto} {xs : List D} (hx : asL x S = some xs) (h : layL xs) : neD x (.lst []) S = .ok (.bl (!decide (xs = []))) S := by
  obtain ⟨l, hl, hs⟩ := h
  have e : pyS (.lst []) S = some (.list []) := rfl
  unfold neD
  rw [pyS_list hx hl, e]
  dsimp only
  rw [if_pos ⟨hs, rfl⟩]
  show R.ok (D.bl (!PyData.eqvAll l [])) S = _
  rw [eqvAll_nil]
  simp [pyL_nil hl]
theorem eq_nilT {S : Sto} {xs : List D} (h : layL xs) : eqD (.tup xs) (.tup []) S = .ok (.bl (decide (xs = []))) S := by
  obtain ⟨l, hl, hs⟩ := h
  have e : pyS (.tup []) S = some (.tuple []) := rfl
  have e2 : pyS (.tup xs) S = some (.tuple l) := by
    show (match D.pyL xs with | some l => some (PyData.tuple l) | none => none) = _
    rw [hl]
  unfold eqD
  rw [e2, e]
  dsimp only
  rw [if_pos ⟨hs, rfl⟩]
  show R.ok (D.bl (PyData.eqvAll l [])) S = _
  rw [eqvAll_nil]
  simp [pyL_nil hl]
theorem any_words (w : List Int) : ∀ ws : List (List Int), ((ws.map wordP).any fun z => PyData.eqv z (wordP w)) = decide (w ∈ ws)
  | [] => by simp
  | v :: r => by
    rw [List.map_cons, List.any_cons, any_words w r, eqv_word]
    by_cases h : v = w
    · subst h; simp
    · have h' : ¬ w = v := fun z => h z.symm
      simp [h, h']
theorem in_words {x : D} {S : Sto} {w : List Int} {ws : List (List Int)} (neg : Bool) (hx : asL x S = some (ws.map wordD)) : inA neg (wordD w) x S = .ok (.bl (if neg then !decide (w ∈ ws) else decide (w ∈ ws))) S := by
  have e1 : pyS (wordD w) S = some (wordP w) := py_word w
  have e2 : pyItems x S = some (ws.map wordP) := by
    unfold pyItems
    rw [pyS_list hx (pyL_words ws)]
  have e3 : dtOf x S = none := by
    cases x with
    | obj k =>
      have hx : (match S[k]? with | some (.lst xs) => some xs | _ => none) = some (ws.map wordD) := hx
      show (match S[k]? with | some (.dT kvs) => some (k, kvs) | _ => none) = none
      split at hx
      · rename_i h; rw [h]
      · cases hx
    | _ => rfl
  unfold inA inT
  rw [e3]
  show orR .bad (orR (inQ neg (wordD w) x S) _) = _
  have e4 : inQ neg (wordD w) x S = .ok (.bl (if neg then !decide (w ∈ ws) else decide (w ∈ ws))) S := by
    unfold inQ
    rw [e1, e2]
    dsimp only
    rw [if_pos ⟨shaped_word w, shaped_words ws⟩, any_words]
  rw [e4]
  rfl
/-! ### loops over known items -/
theorem forL_ind {β : BM} {f : SM} (P : Nat → EnvD → Sto → Prop) : ∀ (ds : List D) (i : Nat) (δ : EnvD) (S : Sto), P i δ S →
    (∀ j d δ S, ds[j]? = some d → P (i + j) δ S → ∃ δ1 δ' S', β d δ = some δ1 ∧ (f δ1 S = .nx δ' S' ∨ f δ1 S = .ct δ' S') ∧ P (i + j + 1) δ' S') →
    ∃ δ' S', forL β f ds δ S = .nx δ' S' ∧ P (i + ds.length) δ' S'
  | [], i, δ, S, h, _ => ⟨δ, S, rfl, h⟩
  | d :: ds, i, δ, S, h, st => by
    obtain ⟨δ1, δ', S', h1, h2, h3⟩ := st 0 d δ S rfl h
    obtain ⟨δ2, S2, h4, h5⟩ := forL_ind P ds (i + 1) δ' S' h3 fun j e δ S he hp => by
      have := st (j + 1) e δ S (by simpa using he) (by rw [show i + (j + 1) = i + 1 + j by omega]; exact hp)
      rw [show i + (j + 1) + 1 = i + 1 + j + 1 by omega] at this
      exact this
    refine ⟨δ2, S2, ?_, by rw [List.length_cons, show i + (ds.length + 1) = i + 1 + ds.length by omega]; exact h5⟩
    unfold forL
    rw [h1]
    rcases h2 with h2 | h2 <;> simp only [h2] <;> exact h4
/-- over a list of the store that stays -/
theorem forN_ind {β : BM} {f : SM} {k m : Nat} {xs : List D} (P : Nat → EnvD → Sto → Prop) (hk : ∀ i δ S, P i δ S → S[k]? = some (.lst xs)) : ∀ (n i : Nat) (δ : EnvD) (S : Sto), i + n = xs.length → P i δ S →
    (∀ j d δ S, xs[j]? = some d → P j δ S → ∃ δ1 δ' S', β d δ = some δ1 ∧ (f δ1 S = .nx δ' S' ∨ f δ1 S = .ct δ' S') ∧ P (j + 1) δ' S') →
    ∃ δ' S', forN (.mutl k m) β f n i δ S = .nx δ' S' ∧ P xs.length δ' S'
  | 0, i, δ, S, e, h, _ => by
    have hi : xs[i]? = none := List.getElem?_eq_none (by omega)
    refine ⟨δ, S, ?_, by rw [← e]; exact h⟩
    unfold forN
    rw [nxt_mutl (hk i δ S h), hi]
  | n + 1, i, δ, S, e, h, st => by
    have hi : xs[i]? = some xs[i] := List.getElem?_eq_getElem (by omega)
    obtain ⟨δ1, δ', S', h1, h2, h3⟩ := st i _ δ S hi h
    obtain ⟨δ2, S2, h4, h5⟩ := forN_ind (m := m) P hk n (i + 1) δ' S' (by omega) h3 st
    refine ⟨δ2, S2, ?_, h5⟩
    unfold forN
    rw [nxt_mutl (hk i δ S h), hi]
    dsimp only
    rw [h1]
    rcases h2 with h2 | h2 <;> simp only [h2] <;> exact h4
@[simp] theorem e_itR1 (j : Int) (au : AM) (δ : EnvD) (S S1 : Sto) (h : au δ S = .ok [.int j] S1) (hj : -(2 ^ 62) ≤ j ∧ j < 2 ^ 62) : itR1 au δ S = .ok (.stat (rngD 0 j.toNat)) S1 := by
  unfold itR1
  rw [h]
  show (if -(2 ^ 62) ≤ j ∧ j < 2 ^ 62 then _ else _) = _
  rw [if_pos hj]
theorem e_itR2 (i j : Int) (au : AM) (δ : EnvD) (S S1 : Sto) (h : au δ S = .ok [.int i, .int j] S1) (hj : -(2 ^ 62) ≤ i ∧ i < 2 ^ 62 ∧ -(2 ^ 62) ≤ j ∧ j < 2 ^ 62) : itR2 au δ S = .ok (.stat (rngD i (j - i).toNat)) S1 := by
  unfold itR2
  rw [h]
  show (if _ then _ else _) = _
  rw [if_pos hj]
theorem e_itQ {f : EM} {δ : EnvD} {S S1 : Sto} {d : D} {it : ItS} (h : f δ S = .ok d S1) (hs : seqI d S1 = some it) : itQ f δ S = .ok it S1 := by
  unfold itQ
  rw [h]
  show (match seqI d S1 with | some it => R.ok it S1 | none => .bad) = _
  rw [hs]
theorem forS_at {it : IM} {β : BM} {f : SM} {δ : EnvD} {S S1 : Sto} {J : ItS} (h : it δ S = .ok J S1) : forS it β f δ S = forN J β f J.size 0 δ S1 := by
  unfold forS
  rw [h]; rfl
/-- a comprehension that leaves the store -/
theorem compL_same {β : BM} {t : TM} {f : EM} {δ : EnvD} {S : Sto} (b : D → Bool) (g : D → D) : ∀ ds : List D,
    (∀ d, d ∈ ds → ∃ δ1, β d δ = some δ1 ∧ t δ1 S = .ok (b d) S ∧ (b d = true → f δ1 S = .ok (g d) S)) → compL β t f ds δ S = .ok ((ds.filter b).map g) S
  | [], _ => rfl
  | d :: ds, h => by
    obtain ⟨δ1, h1, h2, h3⟩ := h d List.mem_cons_self
    have ih := compL_same b g ds fun e he => h e (List.mem_cons_of_mem _ he)
    unfold compL
    rw [h1]
    dsimp only
    rw [h2]
    cases hb : b d with
    | false =>
      simp only [noX_ok, bind_ok, Bool.false_eq_true, if_false, ih]
      rw [List.filter_cons_of_neg (by simp [hb])]
    | true =>
      simp only [noX_ok, bind_ok, if_true, h3 hb, ih]
      rw [List.filter_cons_of_pos hb]
      rfl
theorem comp_same {it : IM} {own : List Nat} {β : BM} {t : TM} {f : EM} {δ : EnvD} {S S1 : Sto} {ds : List D} (b : D → Bool) (g : D → D) (hi : it δ S = .ok (.stat ds) S1) (hl : ds.length ≤ sizeLine)
    (h : ∀ d, d ∈ ds → ∃ δ1, β d (wipeD δ own) = some δ1 ∧ t δ1 S1 = .ok (b d) S1 ∧ (b d = true → f δ1 S1 = .ok (g d) S1)) : compE it own β t f δ S = .ok ((ds.filter b).map g) S1 := by
  rw [compE_stat hi hl]
  exact compL_same b g ds h
end L3
set_option Elab.async false
set_option linter.all false
set_option maxRecDepth 100000
set_option maxHeartbeats 2000000
set_option autoImplicit false
namespace K63
open PySem PySem.Spec PyProof.Rows L2 L3
def topS (i : Nat) : Stmt := PySem.Challenge.pw_signway_k63_whole_desks_beside_their_dee.main.body.getD i (.Pass ⟨0, 0, 0, 0⟩)
abbrev s__law_cup : Stmt := topS 23
theorem sc__law_cup : FnScope ["script", "cell"] ["script"] (defScope s__law_cup) := ⟨rfl, rfl, rfl, by decide +kernel, rfl, by decide +kernel, by decide +kernel⟩
abbrev s_is_tuple_of : Stmt := topS 10
theorem sc_is_tuple_of : FnScope ["value", "least", "most"] ["value", "least", "most"] (defScope s_is_tuple_of) := ⟨rfl, rfl, rfl, by decide +kernel, rfl, by decide +kernel, by decide +kernel⟩
abbrev s_fits_whole : Stmt := topS 9
theorem sc_fits_whole : FnScope ["value", "low", "high"] ["value", "low", "high"] (defScope s_fits_whole) := ⟨rfl, rfl, rfl, by decide +kernel, rfl, by decide +kernel, by decide +kernel⟩
abbrev s_fits_word : Stmt := topS 11
theorem sc_fits_word : FnScope ["value", "sign"] ["value"] (defScope s_fits_word) := ⟨rfl, rfl, rfl, by decide +kernel, rfl, by decide +kernel, by decide +kernel⟩
abbrev s_Desk_need_word : Stmt := inClass (topS 21) 6
theorem sc_Desk_need_word : FnScope ["self", "word"] ["self", "word"] (defScope s_Desk_need_word) := ⟨rfl, rfl, rfl, by decide +kernel, rfl, by decide +kernel, by decide +kernel⟩
abbrev s_turned_at : Stmt := topS 12
theorem sc_turned_at : FnScope ["word", "place"] ["word", "place"] (defScope s_turned_at) := ⟨rfl, rfl, rfl, by decide +kernel, rfl, by decide +kernel, by decide +kernel⟩
abbrev s_Desk_do : Stmt := inClass (topS 21) 3
theorem sc_Desk_do : FnScope ["self", "deed", "kind", "what", "word"] ["self", "deed"] (defScope s_Desk_do) := ⟨rfl, rfl, rfl, by decide +kernel, rfl, by decide +kernel, by decide +kernel⟩
abbrev s_Desk_can : Stmt := inClass (topS 21) 2
theorem sc_Desk_can : FnScope ["self", "deed", "kind", "what", "word"] ["self", "deed"] (defScope s_Desk_can) := ⟨rfl, rfl, rfl, by decide +kernel, rfl, by decide +kernel, by decide +kernel⟩
abbrev s_Desk_done : Stmt := inClass (topS 21) 4
theorem sc_Desk_done : FnScope ["self", "deed"] ["self", "deed"] (defScope s_Desk_done) := ⟨rfl, rfl, rfl, by decide +kernel, rfl, by decide +kernel, by decide +kernel⟩
abbrev s_Desk_begin : Stmt := inClass (topS 21) 13
theorem sc_Desk_begin : FnScope ["self", "word"] ["self", "word"] (defScope s_Desk_begin) := ⟨rfl, rfl, rfl, by decide +kernel, rfl, by decide +kernel, by decide +kernel⟩
abbrev s_Desk_turn : Stmt := inClass (topS 21) 14
theorem sc_Desk_turn : FnScope ["self", "place"] ["self", "place"] (defScope s_Desk_turn) := ⟨rfl, rfl, rfl, by decide +kernel, rfl, by decide +kernel, by decide +kernel⟩
abbrev s_Desk_clear : Stmt := inClass (topS 21) 1
theorem sc_Desk_clear : FnScope ["self", "word"] ["self"] (defScope s_Desk_clear) := ⟨rfl, rfl, rfl, by decide +kernel, rfl, by decide +kernel, by decide +kernel⟩
abbrev s_Desk_again : Stmt := inClass (topS 21) 5
theorem sc_Desk_again : FnScope ["self", "deed"] ["self"] (defScope s_Desk_again) := ⟨rfl, rfl, rfl, by decide +kernel, rfl, by decide +kernel, by decide +kernel⟩
abbrev s_Desk_undo : Stmt := inClass (topS 21) 17
theorem sc_Desk_undo : FnScope ["self"] ["self"] (defScope s_Desk_undo) := ⟨rfl, rfl, rfl, by decide +kernel, rfl, by decide +kernel, by decide +kernel⟩
abbrev s_Desk_bar : Stmt := inClass (topS 21) 15
theorem sc_Desk_bar : FnScope ["self", "word"] ["self", "word"] (defScope s_Desk_bar) := ⟨rfl, rfl, rfl, by decide +kernel, rfl, by decide +kernel, by decide +kernel⟩
abbrev s_fits_cube : Stmt := topS 17
theorem sc_fits_cube : FnScope ["value", "word", "one", "other"] ["value"] (defScope s_fits_cube) := ⟨rfl, rfl, rfl, by decide +kernel, rfl, by decide +kernel, by decide +kernel⟩
abbrev s_need_cube : Stmt := topS 18
theorem sc_need_cube : FnScope ["cube"] ["cube"] (defScope s_need_cube) := ⟨rfl, rfl, rfl, by decide +kernel, rfl, by decide +kernel, by decide +kernel⟩
abbrev s_Desk___init__ : Stmt := inClass (topS 21) 0
theorem sc_Desk___init__ : FnScope ["self", "cube"] ["self", "cube"] (defScope s_Desk___init__) := ⟨rfl, rfl, rfl, by decide +kernel, rfl, by decide +kernel, by decide +kernel⟩
abbrev s_Desk_words : Stmt := inClass (topS 21) 7
theorem sc_Desk_words : FnScope ["self"] ["self"] (defScope s_Desk_words) := ⟨rfl, rfl, rfl, by decide +kernel, rfl, by decide +kernel, by decide +kernel⟩
abbrev s_Desk_able : Stmt := inClass (topS 21) 9
theorem sc_Desk_able : FnScope ["self", "place"] ["self"] (defScope s_Desk_able) := ⟨rfl, rfl, rfl, by decide +kernel, rfl, by decide +kernel, by decide +kernel⟩
abbrev s_all_words : Stmt := topS 14
theorem sc_all_words : FnScope ["signs", "found", "turn", "word", "sign"] ["signs"] (defScope s_all_words) := ⟨rfl, rfl, rfl, by decide +kernel, rfl, by decide +kernel, by decide +kernel⟩
abbrev s_Desk_left : Stmt := inClass (topS 21) 10
theorem sc_Desk_left : FnScope ["self", "word"] ["self"] (defScope s_Desk_left) := ⟨rfl, rfl, rfl, by decide +kernel, rfl, by decide +kernel, by decide +kernel⟩
abbrev s_Desk_is_whole : Stmt := inClass (topS 21) 11
theorem sc_Desk_is_whole : FnScope ["self"] ["self"] (defScope s_Desk_is_whole) := ⟨rfl, rfl, rfl, by decide +kernel, rfl, by decide +kernel, by decide +kernel⟩
abbrev s__law_rows_right : Stmt := topS 36
theorem sc__law_rows_right : FnScope ["one", "two", "barred"] [] (defScope s__law_rows_right) := ⟨rfl, rfl, rfl, by decide +kernel, rfl, by decide +kernel, by decide +kernel⟩
abbrev s__law_roll : Stmt := topS 24
theorem sc__law_roll : FnScope ["cup", "many", "found", "deep"] ["cup", "many"] (defScope s__law_roll) := ⟨rfl, rfl, rfl, by decide +kernel, rfl, by decide +kernel, by decide +kernel⟩
abbrev s__law_word : Stmt := topS 27
theorem sc__law_word : FnScope ["cup", "signs", "turn"] ["cup", "signs"] (defScope s__law_word) := ⟨rfl, rfl, rfl, by decide +kernel, rfl, by decide +kernel, by decide +kernel⟩
abbrev s__law_cube : Stmt := topS 31
theorem sc__law_cube : FnScope ["cup", "signs", "turn"] ["cup", "signs"] (defScope s__law_cube) := ⟨rfl, rfl, rfl, by decide +kernel, rfl, by decide +kernel, by decide +kernel⟩
abbrev s__law_turn : Stmt := topS 28
theorem sc__law_turn : FnScope ["word", "place", "at", "sign"] ["word", "place"] (defScope s__law_turn) := ⟨rfl, rfl, rfl, by decide +kernel, rfl, by decide +kernel, by decide +kernel⟩
abbrev s__law_at : Stmt := topS 32
theorem sc__law_at : FnScope ["cube", "deeds", "line", "bars", "kind", "what"] ["cube", "deeds"] (defScope s__law_at) := ⟨rfl, rfl, rfl, by decide +kernel, rfl, by decide +kernel, by decide +kernel⟩
abbrev s__law_same : Stmt := topS 26
theorem sc__law_same : FnScope ["told", "due", "at"] ["told", "due"] (defScope s__law_same) := ⟨rfl, rfl, rfl, by decide +kernel, rfl, by decide +kernel, by decide +kernel⟩
abbrev s_Desk_barred : Stmt := inClass (topS 21) 8
theorem sc_Desk_barred : FnScope ["self"] ["self"] (defScope s_Desk_barred) := ⟨rfl, rfl, rfl, by decide +kernel, rfl, by decide +kernel, by decide +kernel⟩
abbrev s_Desk_log : Stmt := inClass (topS 21) 19
theorem sc_Desk_log : FnScope ["self"] ["self"] (defScope s_Desk_log) := ⟨rfl, rfl, rfl, by decide +kernel, rfl, by decide +kernel, by decide +kernel⟩
abbrev s__law_all : Stmt := topS 30
theorem sc__law_all : FnScope ["signs", "found", "turn", "word"] ["signs"] (defScope s__law_all) := ⟨rfl, rfl, rfl, by decide +kernel, rfl, by decide +kernel, by decide +kernel⟩
abbrev s_unlike_in : Stmt := topS 13
theorem sc_unlike_in : FnScope ["one", "other", "at"] ["one", "other"] (defScope s_unlike_in) := ⟨rfl, rfl, rfl, by decide +kernel, rfl, by decide +kernel, by decide +kernel⟩
abbrev s_Desk_is_round : Stmt := inClass (topS 21) 12
theorem sc_Desk_is_round : FnScope ["self"] ["self"] (defScope s_Desk_is_round) := ⟨rfl, rfl, rfl, by decide +kernel, rfl, by decide +kernel, by decide +kernel⟩
abbrev s__law_unlike : Stmt := topS 29
theorem sc__law_unlike : FnScope ["one", "other", "at"] ["one", "other"] (defScope s__law_unlike) := ⟨rfl, rfl, rfl, by decide +kernel, rfl, by decide +kernel, by decide +kernel⟩
abbrev s__law_is_as : Stmt := topS 33
theorem sc__law_is_as : FnScope ["desk", "cube", "deeds", "line", "bars", "left", "able", "told", "ends", "word", "place"] ["desk", "cube", "deeds"] (defScope s__law_is_as) := ⟨rfl, rfl, rfl, by decide +kernel, rfl, by decide +kernel, by decide +kernel⟩
abbrev s__law_some : Stmt := topS 25
theorem sc__law_some : FnScope ["cup", "things"] ["cup", "things"] (defScope s__law_some) := ⟨rfl, rfl, rfl, by decide +kernel, rfl, by decide +kernel, by decide +kernel⟩
abbrev s__law_drawn : Stmt := topS 34
theorem sc__law_drawn : FnScope ["cup", "cube", "deeds", "line", "bars", "left", "able", "some", "word", "place"] ["cup", "cube", "deeds"] (defScope s__law_drawn) := ⟨rfl, rfl, rfl, by decide +kernel, rfl, by decide +kernel, by decide +kernel⟩
abbrev s_Desk_redo : Stmt := inClass (topS 21) 18
theorem sc_Desk_redo : FnScope ["self"] ["self"] (defScope s_Desk_redo) := ⟨rfl, rfl, rfl, by decide +kernel, rfl, by decide +kernel, by decide +kernel⟩
abbrev s_Desk_free : Stmt := inClass (topS 21) 16
theorem sc_Desk_free : FnScope ["self", "word"] ["self", "word"] (defScope s_Desk_free) := ⟨rfl, rfl, rfl, by decide +kernel, rfl, by decide +kernel, by decide +kernel⟩
abbrev s__law_do : Stmt := topS 35
theorem sc__law_do : FnScope ["desk", "deed"] ["desk", "deed"] (defScope s__law_do) := ⟨rfl, rfl, rfl, by decide +kernel, rfl, by decide +kernel, by decide +kernel⟩
abbrev s_law : Stmt := topS 37
theorem sc_law : FnScope ["script", "cup", "turn", "cube", "desk", "deeds", "taken", "step", "way", "deed", "last", "due"] ["script"] (defScope s_law) := ⟨rfl, rfl, rfl, by decide +kernel, rfl, by decide +kernel, by decide +kernel⟩
structure TX (K : PySem.W.Frag) (mg : Str → Option Value) where
  c_Desk : ClsT K mg "Desk"
  n_Desk_bars : NoAttr K c_Desk.C "bars"
  n_Desk_cube : NoAttr K c_Desk.C "cube"
  n_Desk_deeds : NoAttr K c_Desk.C "deeds"
  n_Desk_laid : NoAttr K c_Desk.C "laid"
  n_Desk_line : NoAttr K c_Desk.C "line"
  n_Desk_taken : NoAttr K c_Desk.C "taken"
  d__law_cup : TopT K mg "_law_cup" s__law_cup ["script"]
  d_is_tuple_of : TopT K mg "is_tuple_of" s_is_tuple_of ["value", "least", "most"]
  d_fits_whole : TopT K mg "fits_whole" s_fits_whole ["value", "low", "high"]
  d_fits_word : TopT K mg "fits_word" s_fits_word ["value"]
  m_Desk_need_word : MethT K c_Desk.C "need_word" "Desk.need_word" s_Desk_need_word ["self", "word"]
  d_turned_at : TopT K mg "turned_at" s_turned_at ["word", "place"]
  m_Desk_do : MethT K c_Desk.C "do" "Desk.do" s_Desk_do ["self", "deed"]
  m_Desk_can : MethT K c_Desk.C "can" "Desk.can" s_Desk_can ["self", "deed"]
  m_Desk_done : MethT K c_Desk.C "done" "Desk.done" s_Desk_done ["self", "deed"]
  m_Desk_begin : MethT K c_Desk.C "begin" "Desk.begin" s_Desk_begin ["self", "word"]
  m_Desk_turn : MethT K c_Desk.C "turn" "Desk.turn" s_Desk_turn ["self", "place"]
  m_Desk_clear : MethT K c_Desk.C "clear" "Desk.clear" s_Desk_clear ["self"]
  m_Desk_again : MethT K c_Desk.C "again" "Desk.again" s_Desk_again ["self"]
  m_Desk_undo : MethT K c_Desk.C "undo" "Desk.undo" s_Desk_undo ["self"]
  m_Desk_bar : MethT K c_Desk.C "bar" "Desk.bar" s_Desk_bar ["self", "word"]
  d_fits_cube : TopT K mg "fits_cube" s_fits_cube ["value"]
  d_need_cube : TopT K mg "need_cube" s_need_cube ["cube"]
  m_Desk___init__ : MethT K c_Desk.C "__init__" "Desk.__init__" s_Desk___init__ ["self", "cube"]
  m_Desk_words : MethT K c_Desk.C "words" "Desk.words" s_Desk_words ["self"]
  m_Desk_able : MethT K c_Desk.C "able" "Desk.able" s_Desk_able ["self"]
  d_all_words : TopT K mg "all_words" s_all_words ["signs"]
  m_Desk_left : MethT K c_Desk.C "left" "Desk.left" s_Desk_left ["self"]
  m_Desk_is_whole : MethT K c_Desk.C "is_whole" "Desk.is_whole" s_Desk_is_whole ["self"]
  d__law_rows_right : TopT K mg "_law_rows_right" s__law_rows_right []
  d__law_roll : TopT K mg "_law_roll" s__law_roll ["cup", "many"]
  d__law_word : TopT K mg "_law_word" s__law_word ["cup", "signs"]
  d__law_cube : TopT K mg "_law_cube" s__law_cube ["cup", "signs"]
  d__law_turn : TopT K mg "_law_turn" s__law_turn ["word", "place"]
  d__law_at : TopT K mg "_law_at" s__law_at ["cube", "deeds"]
  d__law_same : TopT K mg "_law_same" s__law_same ["told", "due"]
  m_Desk_barred : MethT K c_Desk.C "barred" "Desk.barred" s_Desk_barred ["self"]
  m_Desk_log : MethT K c_Desk.C "log" "Desk.log" s_Desk_log ["self"]
  d__law_all : TopT K mg "_law_all" s__law_all ["signs"]
  d_unlike_in : TopT K mg "unlike_in" s_unlike_in ["one", "other"]
  m_Desk_is_round : MethT K c_Desk.C "is_round" "Desk.is_round" s_Desk_is_round ["self"]
  d__law_unlike : TopT K mg "_law_unlike" s__law_unlike ["one", "other"]
  d__law_is_as : TopT K mg "_law_is_as" s__law_is_as ["desk", "cube", "deeds"]
  d__law_some : TopT K mg "_law_some" s__law_some ["cup", "things"]
  d__law_drawn : TopT K mg "_law_drawn" s__law_drawn ["cup", "cube", "deeds"]
  m_Desk_redo : MethT K c_Desk.C "redo" "Desk.redo" s_Desk_redo ["self"]
  m_Desk_free : MethT K c_Desk.C "free" "Desk.free" s_Desk_free ["self", "word"]
  d__law_do : TopT K mg "_law_do" s__law_do ["desk", "deed"]
  d_law : TopT K mg "law" s_law ["script"]
  mk_Desk : Mk K c_Desk.C m_Desk___init__.f
  z_abs : mg "abs" = none
  z_all : mg "all" = none
  z_bool : mg "bool" = none
  z_dict : mg "dict" = none
  z_enumerate : mg "enumerate" = none
  z_int : mg "int" = none
  z_isinstance : mg "isinstance" = none
  z_len : mg "len" = none
  z_list : mg "list" = none
  z_range : mg "range" = none
  z_set : mg "set" = none
  z_sorted : mg "sorted" = none
  z_str : mg "str" = none
  z_tuple : mg "tuple" = none
  z_zip : mg "zip" = none
  k_DEEDS : ∃ t, mg "DEEDS" = some (.int 2000 t)
  k_SIGNS_cubes : ∃ t, mg "SIGNS_cubes" = some (.int 6 t)
  k_SIGNS_signs : ∃ t, mg "SIGNS_signs" = some (.int 16 t)
section
variable {P : Program} {w : World} {K : PySem.W.Frag} {mg : Str → Option Value} {base : Heap}
def b__law_cup : SM := (seqS (setS 1 (callM absD (consA (bin2 ixD (bin2 addA (frzE (callLM listD (consA (varE 0) nilA))) (frzE (lstE (consA (conE (.int 0)) nilA)))) (conE (.int 0))) nilA)))
    (retS (newE (lstE (consA (ifE (tst (bin2 geI (varE 1) (bin2 powI (conE (.int 10)) (conE (.int 18))))) (bin2 divI (varE 1) (conE (.int 89))) (conE (.int 0))) (consA (bin2 addA (bin2 modI (callM intD (consA (bin2 addA (bin2 mulA (varE 1) (conE (.int 1583))) (conE (.int 6053))) nilA)) (conE (.int 2099910517))) (conE (.int 1451))) nilA))))))
def t__law_cup : FM := fnD 2 b__law_cup
theorem ok__law_cup (T : TX K mg) : FnOk P w K mg base (L2.CX P w) 1 T.d__law_cup.f T.d__law_cup.fd ["script"] (spD ⟨K, mg, []⟩ 1 t__law_cup) := fun_ok T.d__law_cup.F sc__law_cup fun cdv A outer s H E hr =>
    (pssd_cons (psd_set sc__law_cup.nd (pd_callB T.z_abs cd_abs (pad_cons (pd_ix (pd_op od_add (pd_frz (pld_callTy T.z_list cd_list (pad_cons (pd_var 0) pad_nil))) (pd_frz (pld_lst (pad_cons pd_int pad_nil)))) pd_int) pad_nil)))
    (pssd_one (psd_ret (pd_new (pld_lst (pad_cons (pd_if (ptd_cmp od_geI (pd_var 1) (pd_op od_pow pd_int pd_int)) (pd_op od_div (pd_var 1) pd_int) pd_int) (pad_cons (pd_op od_add (pd_op od_mod (pd_callTy T.z_int cd_int (pad_cons (pd_op od_add (pd_op od_mul (pd_var 1) pd_int) pd_int) pad_nil)) pd_int) pd_int) pad_nil)))))))
def b_is_tuple_of : SM := (retS (andV (callM isiD (consA (varE 0) (consA (conE (.ty "tuple")) nilA))) (chain3 leA leA (varE 1) (callM lenD (consA (varE 0) nilA)) (varE 2))))
def t_is_tuple_of : FM := fnD 3 b_is_tuple_of
theorem ok_is_tuple_of (T : TX K mg) : FnOk P w K mg base (L2.CX P w) 1 T.d_is_tuple_of.f T.d_is_tuple_of.fd ["value", "least", "most"] (spD ⟨K, mg, []⟩ 3 t_is_tuple_of) := fun_ok T.d_is_tuple_of.F sc_is_tuple_of fun cdv A outer s H E hr =>
    (pssd_one (psd_ret (pd_and (pd_callB T.z_isinstance cd_isi (pad_cons (pd_var 0) (pad_cons (pd_ty "tuple" T.z_tuple) pad_nil))) (pd_one (pd_chain od_le od_le (pd_var 1) (pd_callB T.z_len cd_len (pad_cons (pd_var 0) pad_nil)) (pd_var 2))))))
def b_fits_whole : SM := (retS (andV (callM isiD (consA (varE 0) (consA (conE (.ty "int")) nilA))) (andV (notV (callM isiD (consA (varE 0) (consA (conE (.ty "bool")) nilA)))) (chain3 leA leA (varE 1) (varE 0) (varE 2)))))
def t_fits_whole : FM := fnD 3 b_fits_whole
theorem ok_fits_whole (T : TX K mg) : FnOk P w K mg base (L2.CX P w) 1 T.d_fits_whole.f T.d_fits_whole.fd ["value", "low", "high"] (spD ⟨K, mg, []⟩ 3 t_fits_whole) := fun_ok T.d_fits_whole.F sc_fits_whole fun cdv A outer s H E hr =>
    (pssd_one (psd_ret (pd_and (pd_callB T.z_isinstance cd_isi (pad_cons (pd_var 0) (pad_cons (pd_ty "int" T.z_int) pad_nil))) (pd_and (pd_not (pd_callB T.z_isinstance cd_isi (pad_cons (pd_var 0) (pad_cons (pd_ty "bool" T.z_bool) pad_nil)))) (pd_one (pd_chain od_le od_le (pd_var 1) (pd_var 0) (pd_var 2)))))))
def b_fits_word : SM := (retS (andV (callD t_is_tuple_of 3 (consA (varE 0) (consA (conE (.int 1)) (consA (conE (.int 16)) nilA)))) (callM allD (consA (frzE (compE (itQ (varE 0)) [1] (bName 1) yesT (callD t_fits_whole 3 (consA (varE 1) (consA (conE (.int 0)) (consA (conE (.int 1)) nilA)))))) nilA))))
def t_fits_word : FM := fnD 2 b_fits_word
theorem ok_fits_word (T : TX K mg) : FnOk P w K mg base (L2.CX P w) 2 T.d_fits_word.f T.d_fits_word.fd ["value"] (spD ⟨K, mg, []⟩ 1 t_fits_word) := fun_ok T.d_fits_word.F sc_fits_word fun cdv A outer s H E hr =>
    (pssd_one (psd_ret (pd_and (pd_call (ok_is_tuple_of T) (hr.mono (by decide)) T.d_is_tuple_of.g T.d_is_tuple_of.F.kp T.d_is_tuple_of.b (takes_of rfl rfl rfl rfl) (pad_cons (pd_var 0) (pad_cons pd_int (pad_cons (pd_gint T.k_SIGNS_signs.choose_spec) pad_nil)))) (pd_one (pd_callB T.z_all (cd_all rfl) (pad_cons (pd_frz (pld_lc [("sign", 1)] rfl sc_fits_word.nd (pid_sq (pd_var 0)) (blkOk_by (N := ["value", "sign"]) (sc := defScope s_fits_word) (by decide +kernel)) (fun _ _ _ _ _ => (pgd_name sc_fits_word.nd)) (fun _ _ _ _ _ => ptsd_nil) (fun _ _ _ _ _ => (pd_call (ok_fits_whole T) (hr.mono (by decide)) T.d_fits_whole.g T.d_fits_whole.F.kp T.d_fits_whole.b takes0 (pad_cons (pd_var 1) (pad_cons pd_int (pad_cons pd_int pad_nil))))))) pad_nil))))))
def b_Desk_need_word : SM := (ifS (orT (notT (tst (callD t_fits_word 1 (consA (varE 1) nilA)))) (tst (bin2 neD (callM lenD (consA (varE 1) nilA)) (bin2 ixD (fldD "Desk" "cube" (varE 0)) (conE (.int 0)))))) (fun _ _ => .bad) nxS)
def t_Desk_need_word : FM := fnD 2 b_Desk_need_word
theorem ok_Desk_need_word (T : TX K mg) : FnOk P w K mg base (L2.CX P w) 3 T.m_Desk_need_word.f T.m_Desk_need_word.fd ["self", "word"] (spD ⟨K, mg, []⟩ 2 t_Desk_need_word) := fun_ok T.m_Desk_need_word.F sc_Desk_need_word fun cdv A outer s H E hr =>
    (pssd_one (psd_if (PWD.pt (pwd_or (ptd_not (ptd_val (pd_call (ok_fits_word T) (hr.mono (by decide)) T.d_fits_word.g T.d_fits_word.F.kp T.d_fits_word.b (takes_of rfl rfl rfl rfl) (pad_cons (pd_var 1) pad_nil)))) (pwd_or1 (ptd_cmp (od_ne (hu65 hr)) (pd_callB T.z_len cd_len (pad_cons (pd_var 1) pad_nil)) (pd_ix (pd_fld T.c_Desk.g T.c_Desk.cl T.n_Desk_cube (pd_var 0)) pd_int))))) pssd_never pssd_nil))
def b_turned_at : SM := (retS (bin2 addA (bin2 addA (slE (varE 0) noPart (somePart (bin2 subI (varE 1) (conE (.int 1))))) (tupE (consA (bin2 subI (conE (.int 1)) (bin2 ixD (varE 0) (bin2 subI (varE 1) (conE (.int 1))))) nilA))) (slE (varE 0) (somePart (varE 1)) noPart)))
def t_turned_at : FM := fnD 2 b_turned_at
theorem ok_turned_at (T : TX K mg) : FnOk P w K mg base (L2.CX P w) 1 T.d_turned_at.f T.d_turned_at.fd ["word", "place"] (spD ⟨K, mg, []⟩ 2 t_turned_at) := fun_ok T.d_turned_at.F sc_turned_at fun cdv A outer s H E hr =>
    (pssd_one (psd_ret (pd_op od_add (pd_op od_add (pd_sl (pd_var 0) pod_none (pod_some (pd_op od_sub (pd_var 1) pd_int))) (pd_tup (pad_cons (pd_op od_sub pd_int (pd_ix (pd_var 0) (pd_op od_sub (pd_var 1) pd_int))) pad_nil))) (pd_sl (pd_var 0) (pod_some (pd_var 1)) pod_none))))
def b_Desk_do : SM := (seqS (asgS (varE 1) (bTup (bCons (bName 2) (bCons (bName 3) bNil))))
    (ifS (tst (bin2 (inA false) (varE 2) (tupE (consA (conE (.str [98, 101, 103, 105, 110])) (consA (conE (.str [116, 117, 114, 110])) nilA))))) (seqS (setS 4 (ifE (tst (bin2 eqD (varE 2) (conE (.str [98, 101, 103, 105, 110])))) (varE 3) (callD t_turned_at 2 (consA (bin2 ixD (fldD "Desk" "line" (varE 0)) (un1 negI (conE (.int 1)))) (consA (varE 3) nilA)))))
    (seqS (dropS (mthD appD (fldD "Desk" "line" (varE 0)) (consA (varE 4) nilA)))
    (ixS (fldD "Desk" "laid" (varE 0)) (varE 4) (conE (.bl true))))) (ifS (tst (bin2 eqD (varE 2) (conE (.str [98, 97, 114])))) (ixS (fldD "Desk" "bars" (varE 0)) (varE 3) (conE (.bl true))) (delS (fldD "Desk" "bars" (varE 0)) (varE 3)))))
def t_Desk_do : FM := fnD 5 b_Desk_do
theorem ok_Desk_do (T : TX K mg) : FnOk P w K mg base (L2.CX P w) 2 T.m_Desk_do.f T.m_Desk_do.fd ["self", "deed"] (spD ⟨K, mg, []⟩ 2 t_Desk_do) := fun_ok T.m_Desk_do.F sc_Desk_do fun cdv A outer s H E hr =>
    (pssd_cons (psd_asg (pd_var 1) (pgd_tup rfl (pgsd_cons (pgd_name sc_Desk_do.nd) (pgsd_cons (pgd_name sc_Desk_do.nd) pgsd_nil)) (lenB_cons (lenB_cons lenB_nil))))
    (pssd_one (psd_if (ptd_cmp (od_in (hu65 hr)) (pd_var 2) (pd_tup (pad_cons (pd_str [98, 101, 103, 105, 110]) (pad_cons (pd_str [116, 117, 114, 110]) pad_nil)))) (pssd_cons (psd_set sc_Desk_do.nd (pd_if (ptd_cmp (od_eq (hu65 hr)) (pd_var 2) (pd_str [98, 101, 103, 105, 110])) (pd_var 3) (pd_call (ok_turned_at T) (hr.mono (by decide)) T.d_turned_at.g T.d_turned_at.F.kp T.d_turned_at.b (takes_of rfl rfl rfl rfl) (pad_cons (pd_ix (pd_fld T.c_Desk.g T.c_Desk.cl T.n_Desk_line (pd_var 0)) (pd_neg pd_int)) (pad_cons (pd_var 3) pad_nil)))))
    (pssd_cons (psd_expr (pd_mth PySem.F.slot_list_append PySem.F.type_list_append md_app (pd_fld T.c_Desk.g T.c_Desk.cl T.n_Desk_line (pd_var 0)) (pad_cons (pd_var 4) pad_nil)))
    (pssd_one (psd_ix (hu65 hr) (pd_fld T.c_Desk.g T.c_Desk.cl T.n_Desk_laid (pd_var 0)) (pd_var 4) pd_bl)))) (pssd_one (psd_if (ptd_cmp (od_eq (hu65 hr)) (pd_var 2) (pd_str [98, 97, 114])) (pssd_one (psd_ix (hu65 hr) (pd_fld T.c_Desk.g T.c_Desk.cl T.n_Desk_bars (pd_var 0)) (pd_var 3) pd_bl)) (pssd_one (psd_delT (hu65 hr) (pd_fld T.c_Desk.g T.c_Desk.cl T.n_Desk_bars (pd_var 0)) (pd_var 3))))))))
def b_Desk_can : SM := (seqS (asgS (varE 1) (bTup (bCons (bName 2) (bCons (bName 3) bNil))))
    (seqS (ifS (tst (bin2 eqD (varE 2) (conE (.str [116, 117, 114, 110])))) (seqS (setS 4 (ifE (tst (bin2 neD (fldD "Desk" "line" (varE 0)) (frzE (lstE nilA)))) (callD t_turned_at 2 (consA (bin2 ixD (fldD "Desk" "line" (varE 0)) (un1 negI (conE (.int 1)))) (consA (varE 3) nilA))) (conE .non)))
    (retS (andV (bin2 (isN true) (varE 4) (conE .non)) (andV (bin2 (inA true) (varE 4) (fldD "Desk" "bars" (varE 0))) (bin2 (inA true) (varE 4) (fldD "Desk" "laid" (varE 0))))))) nxS)
    (seqS (ifS (tst (bin2 eqD (varE 2) (conE (.str [98, 101, 103, 105, 110])))) (retS (andV (bin2 eqD (fldD "Desk" "line" (varE 0)) (frzE (lstE nilA))) (bin2 (inA true) (varE 3) (fldD "Desk" "bars" (varE 0))))) nxS)
    (seqS (ifS (tst (bin2 eqD (varE 2) (conE (.str [98, 97, 114])))) (retS (andV (bin2 (inA true) (varE 3) (fldD "Desk" "bars" (varE 0))) (bin2 (inA true) (varE 3) (fldD "Desk" "laid" (varE 0))))) nxS)
    (retS (bin2 (inA false) (varE 3) (fldD "Desk" "bars" (varE 0))))))))
def t_Desk_can : FM := fnD 5 b_Desk_can
theorem ok_Desk_can (T : TX K mg) : FnOk P w K mg base (L2.CX P w) 2 T.m_Desk_can.f T.m_Desk_can.fd ["self", "deed"] (spD ⟨K, mg, []⟩ 2 t_Desk_can) := fun_ok T.m_Desk_can.F sc_Desk_can fun cdv A outer s H E hr =>
    (pssd_cons (psd_asg (pd_var 1) (pgd_tup rfl (pgsd_cons (pgd_name sc_Desk_can.nd) (pgsd_cons (pgd_name sc_Desk_can.nd) pgsd_nil)) (lenB_cons (lenB_cons lenB_nil))))
    (pssd_cons (psd_if (ptd_cmp (od_eq (hu65 hr)) (pd_var 2) (pd_str [116, 117, 114, 110])) (pssd_cons (psd_set sc_Desk_can.nd (pd_if (ptd_cmp (od_ne (hu65 hr)) (pd_fld T.c_Desk.g T.c_Desk.cl T.n_Desk_line (pd_var 0)) (pd_frz (pld_lst pad_nil))) (pd_call (ok_turned_at T) (hr.mono (by decide)) T.d_turned_at.g T.d_turned_at.F.kp T.d_turned_at.b (takes_of rfl rfl rfl rfl) (pad_cons (pd_ix (pd_fld T.c_Desk.g T.c_Desk.cl T.n_Desk_line (pd_var 0)) (pd_neg pd_int)) (pad_cons (pd_var 3) pad_nil))) pd_non))
    (pssd_one (psd_ret (pd_and (pd_cmp od_notN (pd_var 4) pd_non) (pd_and (pd_cmp (od_notIn (hu65 hr)) (pd_var 4) (pd_fld T.c_Desk.g T.c_Desk.cl T.n_Desk_bars (pd_var 0))) (pd_one (pd_cmp (od_notIn (hu65 hr)) (pd_var 4) (pd_fld T.c_Desk.g T.c_Desk.cl T.n_Desk_laid (pd_var 0))))))))) pssd_nil)
    (pssd_cons (psd_if (ptd_cmp (od_eq (hu65 hr)) (pd_var 2) (pd_str [98, 101, 103, 105, 110])) (pssd_one (psd_ret (pd_and (pd_cmp (od_eq (hu65 hr)) (pd_fld T.c_Desk.g T.c_Desk.cl T.n_Desk_line (pd_var 0)) (pd_frz (pld_lst pad_nil))) (pd_one (pd_cmp (od_notIn (hu65 hr)) (pd_var 3) (pd_fld T.c_Desk.g T.c_Desk.cl T.n_Desk_bars (pd_var 0))))))) pssd_nil)
    (pssd_cons (psd_if (ptd_cmp (od_eq (hu65 hr)) (pd_var 2) (pd_str [98, 97, 114])) (pssd_one (psd_ret (pd_and (pd_cmp (od_notIn (hu65 hr)) (pd_var 3) (pd_fld T.c_Desk.g T.c_Desk.cl T.n_Desk_bars (pd_var 0))) (pd_one (pd_cmp (od_notIn (hu65 hr)) (pd_var 3) (pd_fld T.c_Desk.g T.c_Desk.cl T.n_Desk_laid (pd_var 0))))))) pssd_nil)
    (pssd_one (psd_ret (pd_cmp (od_in (hu65 hr)) (pd_var 3) (pd_fld T.c_Desk.g T.c_Desk.cl T.n_Desk_bars (pd_var 0)))))))))
def b_Desk_done : SM := (seqS (ifS (orT (notT (tst (methD "Desk" "can" t_Desk_can 2 (varE 0) (consA (varE 1) nilA)))) (tst (bin2 eqD (callM lenD (consA (fldD "Desk" "deeds" (varE 0)) nilA)) (conE (.int 2000))))) (fun _ _ => .bad) nxS)
    (seqS (dropS (methD "Desk" "do" t_Desk_do 2 (varE 0) (consA (varE 1) nilA)))
    (seqS (dropS (mthD appD (fldD "Desk" "deeds" (varE 0)) (consA (varE 1) nilA)))
    (fldS "Desk" "taken" (varE 0) (newE (lstE nilA))))))
def t_Desk_done : FM := fnD 2 b_Desk_done
theorem ok_Desk_done (T : TX K mg) : FnOk P w K mg base (L2.CX P w) 3 T.m_Desk_done.f T.m_Desk_done.fd ["self", "deed"] (spD ⟨K, mg, []⟩ 2 t_Desk_done) := fun_ok T.m_Desk_done.F sc_Desk_done fun cdv A outer s H E hr =>
    (pssd_cons (psd_if (PWD.pt (pwd_or (ptd_not (ptd_val (pd_meth T.c_Desk.g (pd_var 0) T.c_Desk.cl T.m_Desk_can.m (ok_Desk_can T) (hr.mono (by decide)) T.m_Desk_can.b (takes_of rfl rfl rfl rfl) (pad_cons (pd_var 1) pad_nil)))) (pwd_or1 (ptd_cmp (od_eq (hu65 hr)) (pd_callB T.z_len cd_len (pad_cons (pd_fld T.c_Desk.g T.c_Desk.cl T.n_Desk_deeds (pd_var 0)) pad_nil)) (pd_gint T.k_DEEDS.choose_spec))))) pssd_never pssd_nil)
    (pssd_cons (psd_expr (pd_meth T.c_Desk.g (pd_var 0) T.c_Desk.cl T.m_Desk_do.m (ok_Desk_do T) (hr.mono (by decide)) T.m_Desk_do.b (takes_of rfl rfl rfl rfl) (pad_cons (pd_var 1) pad_nil)))
    (pssd_cons (psd_expr (pd_mth PySem.F.slot_list_append PySem.F.type_list_append md_app (pd_fld T.c_Desk.g T.c_Desk.cl T.n_Desk_deeds (pd_var 0)) (pad_cons (pd_var 1) pad_nil)))
    (pssd_one (psd_fld T.c_Desk.g T.c_Desk.cl T.n_Desk_taken (pd_var 0) (pd_new (pld_lst pad_nil)))))))
def b_Desk_begin : SM := (seqS (dropS (methD "Desk" "need_word" t_Desk_need_word 2 (varE 0) (consA (varE 1) nilA)))
    (dropS (methD "Desk" "done" t_Desk_done 2 (varE 0) (consA (tupE (consA (conE (.str [98, 101, 103, 105, 110])) (consA (varE 1) nilA))) nilA))))
def t_Desk_begin : FM := fnD 2 b_Desk_begin
theorem ok_Desk_begin (T : TX K mg) : FnOk P w K mg base (L2.CX P w) 4 T.m_Desk_begin.f T.m_Desk_begin.fd ["self", "word"] (spD ⟨K, mg, []⟩ 2 t_Desk_begin) := fun_ok T.m_Desk_begin.F sc_Desk_begin fun cdv A outer s H E hr =>
    (pssd_cons (psd_expr (pd_meth T.c_Desk.g (pd_var 0) T.c_Desk.cl T.m_Desk_need_word.m (ok_Desk_need_word T) (hr.mono (by decide)) T.m_Desk_need_word.b (takes_of rfl rfl rfl rfl) (pad_cons (pd_var 1) pad_nil)))
    (pssd_one (psd_expr (pd_meth T.c_Desk.g (pd_var 0) T.c_Desk.cl T.m_Desk_done.m (ok_Desk_done T) (hr.mono (by decide)) T.m_Desk_done.b (takes_of rfl rfl rfl rfl) (pad_cons (pd_tup (pad_cons (pd_str [98, 101, 103, 105, 110]) (pad_cons (pd_var 1) pad_nil))) pad_nil)))))
def b_Desk_turn : SM := (seqS (ifS (notT (tst (callD t_fits_whole 3 (consA (varE 1) (consA (conE (.int 1)) (consA (bin2 ixD (fldD "Desk" "cube" (varE 0)) (conE (.int 0))) nilA)))))) (fun _ _ => .bad) nxS)
    (seqS (dropS (methD "Desk" "done" t_Desk_done 2 (varE 0) (consA (tupE (consA (conE (.str [116, 117, 114, 110])) (consA (varE 1) nilA))) nilA)))
    (retS (bin2 ixD (fldD "Desk" "line" (varE 0)) (un1 negI (conE (.int 1)))))))
def t_Desk_turn : FM := fnD 2 b_Desk_turn
theorem ok_Desk_turn (T : TX K mg) : FnOk P w K mg base (L2.CX P w) 4 T.m_Desk_turn.f T.m_Desk_turn.fd ["self", "place"] (spD ⟨K, mg, []⟩ 2 t_Desk_turn) := fun_ok T.m_Desk_turn.F sc_Desk_turn fun cdv A outer s H E hr =>
    (pssd_cons (psd_if (ptd_not (ptd_val (pd_call (ok_fits_whole T) (hr.mono (by decide)) T.d_fits_whole.g T.d_fits_whole.F.kp T.d_fits_whole.b (takes_of rfl rfl rfl rfl) (pad_cons (pd_var 1) (pad_cons pd_int (pad_cons (pd_ix (pd_fld T.c_Desk.g T.c_Desk.cl T.n_Desk_cube (pd_var 0)) pd_int) pad_nil)))))) pssd_never pssd_nil)
    (pssd_cons (psd_expr (pd_meth T.c_Desk.g (pd_var 0) T.c_Desk.cl T.m_Desk_done.m (ok_Desk_done T) (hr.mono (by decide)) T.m_Desk_done.b (takes_of rfl rfl rfl rfl) (pad_cons (pd_tup (pad_cons (pd_str [116, 117, 114, 110]) (pad_cons (pd_var 1) pad_nil))) pad_nil)))
    (pssd_one (psd_ret (pd_ix (pd_fld T.c_Desk.g T.c_Desk.cl T.n_Desk_line (pd_var 0)) (pd_neg pd_int))))))
def b_Desk_clear : SM := (asgH (tupE (consA (callM dictD (consA (frzE (compE (itQ (bin2 ixD (fldD "Desk" "cube" (varE 0)) (conE (.int 1)))) [1] (bName 1) yesT (tupE (consA (varE 1) (consA (conE (.bl true)) nilA))))) nilA)) (consA (newE (lstE nilA)) (consA newDT nilA)))) (hTup (hCons (hFld "Desk" "bars" (varE 0)) (hCons (hFld "Desk" "line" (varE 0)) (hCons (hFld "Desk" "laid" (varE 0)) hNil)))))
def t_Desk_clear : FM := fnD 2 b_Desk_clear
theorem ok_Desk_clear (T : TX K mg) : FnOk P w K mg base (L2.CX P w) 1 T.m_Desk_clear.f T.m_Desk_clear.fd ["self"] (spD ⟨K, mg, []⟩ 1 t_Desk_clear) := fun_ok T.m_Desk_clear.F sc_Desk_clear fun cdv A outer s H E hr =>
    (pssd_one (psd_asgH (pd_tup (pad_cons (pd_callTy T.z_dict (cd_dict rfl (hu65 hr)) (pad_cons (pd_frz (pld_lc [("word", 1)] rfl sc_Desk_clear.nd (pid_sq (pd_ix (pd_fld T.c_Desk.g T.c_Desk.cl T.n_Desk_cube (pd_var 0)) pd_int)) (blkOk_by (N := ["self", "word"]) (sc := defScope s_Desk_clear) (by decide +kernel)) (fun _ _ _ _ _ => (pgd_name sc_Desk_clear.nd)) (fun _ _ _ _ _ => ptsd_nil) (fun _ _ _ _ _ => (pd_tup (pad_cons (pd_var 1) (pad_cons pd_bl pad_nil)))))) pad_nil)) (pad_cons (pd_new (pld_lst pad_nil)) (pad_cons pd_newDT pad_nil)))) (phd_tup rfl (phsd_cons (phd_fld (W := W0) T.c_Desk.g T.c_Desk.cl T.n_Desk_bars (pd_var 0)) (phsd_cons (phd_fld (W := W0) T.c_Desk.g T.c_Desk.cl T.n_Desk_line (pd_var 0)) (phsd_cons (phd_fld (W := W0) T.c_Desk.g T.c_Desk.cl T.n_Desk_laid (pd_var 0)) phsd_nil))) (lenH_cons (lenH_cons (lenH_cons lenH_nil))))))
def b_Desk_again : SM := (seqS (dropS (meth0D "Desk" "clear" t_Desk_clear (varE 0)))
    (forS (itQ (fldD "Desk" "deeds" (varE 0))) (bName 1) (dropS (methD "Desk" "do" t_Desk_do 2 (varE 0) (consA (varE 1) nilA)))))
def t_Desk_again : FM := fnD 2 b_Desk_again
theorem ok_Desk_again (T : TX K mg) : FnOk P w K mg base (L2.CX P w) 3 T.m_Desk_again.f T.m_Desk_again.fd ["self"] (spD ⟨K, mg, []⟩ 1 t_Desk_again) := fun_ok T.m_Desk_again.F sc_Desk_again fun cdv A outer s H E hr =>
    (pssd_cons (psd_expr (pd_meth0 T.c_Desk.g (pd_var 0) T.c_Desk.cl T.m_Desk_clear.m (ok_Desk_clear T) (hr.mono (by decide)) T.m_Desk_clear.b (takes_of rfl rfl rfl rfl)))
    (pssd_one (psd_for (L2.passes_of rfl) rfl (pid_sq (pd_fld T.c_Desk.g T.c_Desk.cl T.n_Desk_deeds (pd_var 0))) (pgd_name sc_Desk_again.nd) (pssd_one (psd_expr (pd_meth T.c_Desk.g (pd_var 0) T.c_Desk.cl T.m_Desk_do.m (ok_Desk_do T) (hr.mono (by decide)) T.m_Desk_do.b (takes_of rfl rfl rfl rfl) (pad_cons (pd_var 1) pad_nil)))))))
def b_Desk_undo : SM := (seqS (ifS (tst (bin2 eqD (fldD "Desk" "deeds" (varE 0)) (frzE (lstE nilA)))) (fun _ _ => .bad) nxS)
    (seqS (dropS (mthD appD (fldD "Desk" "taken" (varE 0)) (consA (mth0D popD (fldD "Desk" "deeds" (varE 0))) nilA)))
    (seqS (dropS (meth0D "Desk" "again" t_Desk_again (varE 0)))
    (retS (bin2 ixD (fldD "Desk" "taken" (varE 0)) (un1 negI (conE (.int 1))))))))
def t_Desk_undo : FM := fnD 1 b_Desk_undo
theorem ok_Desk_undo (T : TX K mg) : FnOk P w K mg base (L2.CX P w) 4 T.m_Desk_undo.f T.m_Desk_undo.fd ["self"] (spD ⟨K, mg, []⟩ 1 t_Desk_undo) := fun_ok T.m_Desk_undo.F sc_Desk_undo fun cdv A outer s H E hr =>
    (pssd_cons (psd_if (ptd_cmp (od_eq (hu65 hr)) (pd_fld T.c_Desk.g T.c_Desk.cl T.n_Desk_deeds (pd_var 0)) (pd_frz (pld_lst pad_nil))) pssd_never pssd_nil)
    (pssd_cons (psd_expr (pd_mth PySem.F.slot_list_append PySem.F.type_list_append md_app (pd_fld T.c_Desk.g T.c_Desk.cl T.n_Desk_taken (pd_var 0)) (pad_cons (pd_mth0 PySem.F.slot_list_pop PySem.F.type_list_pop md_pop (pd_fld T.c_Desk.g T.c_Desk.cl T.n_Desk_deeds (pd_var 0))) pad_nil)))
    (pssd_cons (psd_expr (pd_meth0 T.c_Desk.g (pd_var 0) T.c_Desk.cl T.m_Desk_again.m (ok_Desk_again T) (hr.mono (by decide)) T.m_Desk_again.b (takes_of rfl rfl rfl rfl)))
    (pssd_one (psd_ret (pd_ix (pd_fld T.c_Desk.g T.c_Desk.cl T.n_Desk_taken (pd_var 0)) (pd_neg pd_int)))))))
def b_Desk_bar : SM := (seqS (dropS (methD "Desk" "need_word" t_Desk_need_word 2 (varE 0) (consA (varE 1) nilA)))
    (dropS (methD "Desk" "done" t_Desk_done 2 (varE 0) (consA (tupE (consA (conE (.str [98, 97, 114])) (consA (varE 1) nilA))) nilA))))
def t_Desk_bar : FM := fnD 2 b_Desk_bar
theorem ok_Desk_bar (T : TX K mg) : FnOk P w K mg base (L2.CX P w) 4 T.m_Desk_bar.f T.m_Desk_bar.fd ["self", "word"] (spD ⟨K, mg, []⟩ 2 t_Desk_bar) := fun_ok T.m_Desk_bar.F sc_Desk_bar fun cdv A outer s H E hr =>
    (pssd_cons (psd_expr (pd_meth T.c_Desk.g (pd_var 0) T.c_Desk.cl T.m_Desk_need_word.m (ok_Desk_need_word T) (hr.mono (by decide)) T.m_Desk_need_word.b (takes_of rfl rfl rfl rfl) (pad_cons (pd_var 1) pad_nil)))
    (pssd_one (psd_expr (pd_meth T.c_Desk.g (pd_var 0) T.c_Desk.cl T.m_Desk_done.m (ok_Desk_done T) (hr.mono (by decide)) T.m_Desk_done.b (takes_of rfl rfl rfl rfl) (pad_cons (pd_tup (pad_cons (pd_str [98, 97, 114]) (pad_cons (pd_var 1) pad_nil))) pad_nil)))))
def b_fits_cube : SM := (seqS (ifS (orT (notT (tst (callD t_is_tuple_of 3 (consA (varE 0) (consA (conE (.int 2)) (consA (conE (.int 2)) nilA)))))) (orT (notT (tst (callD t_fits_whole 3 (consA (bin2 ixD (varE 0) (conE (.int 0))) (consA (conE (.int 1)) (consA (conE (.int 6)) nilA)))))) (notT (tst (callM isiD (consA (bin2 ixD (varE 0) (conE (.int 1))) (consA (conE (.ty "tuple")) nilA))))))) (retS (conE (.bl false))) nxS)
    (seqS (ifS (notT (tst (callM allD (consA (frzE (compE (itQ (bin2 ixD (varE 0) (conE (.int 1)))) [1] (bName 1) yesT (andV (callD t_fits_word 1 (consA (varE 1) nilA)) (bin2 eqD (callM lenD (consA (varE 1) nilA)) (bin2 ixD (varE 0) (conE (.int 0))))))) nilA)))) (retS (conE (.bl false))) nxS)
    (retS (callM allD (consA (frzE (compE (itZp (consA (bin2 ixD (varE 0) (conE (.int 1))) (consA (slE (bin2 ixD (varE 0) (conE (.int 1))) (somePart (conE (.int 1))) noPart) nilA))) [2, 3] (bTup (bCons (bName 2) (bCons (bName 3) bNil))) yesT (bin2 ltA (varE 2) (varE 3)))) nilA)))))
def t_fits_cube : FM := fnD 4 b_fits_cube
theorem ok_fits_cube (T : TX K mg) : FnOk P w K mg base (L2.CX P w) 3 T.d_fits_cube.f T.d_fits_cube.fd ["value"] (spD ⟨K, mg, []⟩ 1 t_fits_cube) := fun_ok T.d_fits_cube.F sc_fits_cube fun cdv A outer s H E hr =>
    (pssd_cons (psd_if (PWD.pt (pwd_or (ptd_not (ptd_val (pd_call (ok_is_tuple_of T) (hr.mono (by decide)) T.d_is_tuple_of.g T.d_is_tuple_of.F.kp T.d_is_tuple_of.b (takes_of rfl rfl rfl rfl) (pad_cons (pd_var 0) (pad_cons pd_int (pad_cons pd_int pad_nil)))))) (pwd_or (ptd_not (ptd_val (pd_call (ok_fits_whole T) (hr.mono (by decide)) T.d_fits_whole.g T.d_fits_whole.F.kp T.d_fits_whole.b (takes_of rfl rfl rfl rfl) (pad_cons (pd_ix (pd_var 0) pd_int) (pad_cons pd_int (pad_cons (pd_gint T.k_SIGNS_cubes.choose_spec) pad_nil)))))) (pwd_or1 (ptd_not (ptd_val (pd_callB T.z_isinstance cd_isi (pad_cons (pd_ix (pd_var 0) pd_int) (pad_cons (pd_ty "tuple" T.z_tuple) pad_nil))))))))) (pssd_one (psd_ret pd_bl)) pssd_nil)
    (pssd_cons (psd_if (ptd_not (ptd_val (pd_callB T.z_all (cd_all rfl) (pad_cons (pd_frz (pld_lc [("word", 1)] rfl sc_fits_cube.nd (pid_sq (pd_ix (pd_var 0) pd_int)) (blkOk_by (N := ["value", "word", "one", "other"]) (sc := defScope s_fits_cube) (by decide +kernel)) (fun _ _ _ _ _ => (pgd_name sc_fits_cube.nd)) (fun _ _ _ _ _ => ptsd_nil) (fun _ _ _ _ _ => (pd_and (pd_call (ok_fits_word T) (hr.mono (by decide)) T.d_fits_word.g T.d_fits_word.F.kp T.d_fits_word.b takes0 (pad_cons (pd_var 1) pad_nil)) (pd_one (pd_cmp (od_eq (hu65 hr)) (pd_callB T.z_len cd_len (pad_cons (pd_var 1) pad_nil)) (pd_ix (pd_var 0) pd_int))))))) pad_nil)))) (pssd_one (psd_ret pd_bl)) pssd_nil)
    (pssd_one (psd_ret (pd_callB T.z_all (cd_all rfl) (pad_cons (pd_frz (pld_lc [("one", 2), ("other", 3)] rfl sc_fits_cube.nd (pid_zp T.z_zip (pad_cons (pd_ix (pd_var 0) pd_int) (pad_cons (pd_sl (pd_ix (pd_var 0) pd_int) (pod_some pd_int) pod_none) pad_nil))) (blkOk_by (N := ["value", "word", "one", "other"]) (sc := defScope s_fits_cube) (by decide +kernel)) (fun _ _ _ _ _ => (pgd_tup rfl (pgsd_cons (pgd_name sc_fits_cube.nd) (pgsd_cons (pgd_name sc_fits_cube.nd) pgsd_nil)) (lenB_cons (lenB_cons lenB_nil)))) (fun _ _ _ _ _ => ptsd_nil) (fun _ _ _ _ _ => (pd_cmp (od_lt (hu65 hr)) (pd_var 2) (pd_var 3))))) pad_nil))))))
def b_need_cube : SM := (ifS (notT (tst (callD t_fits_cube 1 (consA (varE 0) nilA)))) (fun _ _ => .bad) nxS)
def t_need_cube : FM := fnD 1 b_need_cube
theorem ok_need_cube (T : TX K mg) : FnOk P w K mg base (L2.CX P w) 4 T.d_need_cube.f T.d_need_cube.fd ["cube"] (spD ⟨K, mg, []⟩ 1 t_need_cube) := fun_ok T.d_need_cube.F sc_need_cube fun cdv A outer s H E hr =>
    (pssd_one (psd_if (ptd_not (ptd_val (pd_call (ok_fits_cube T) (hr.mono (by decide)) T.d_fits_cube.g T.d_fits_cube.F.kp T.d_fits_cube.b (takes_of rfl rfl rfl rfl) (pad_cons (pd_var 0) pad_nil)))) pssd_never pssd_nil))
def b_Desk___init__ : SM := (seqS (dropS (callD t_need_cube 1 (consA (varE 1) nilA)))
    (seqS (fldS "Desk" "cube" (varE 0) (varE 1))
    (seqS (asgH (tupE (consA (newE (lstE nilA)) (consA (newE (lstE nilA)) nilA))) (hTup (hCons (hFld "Desk" "deeds" (varE 0)) (hCons (hFld "Desk" "taken" (varE 0)) hNil))))
    (dropS (meth0D "Desk" "clear" t_Desk_clear (varE 0))))))
def t_Desk___init__ : FM := fnD 2 b_Desk___init__
theorem ok_Desk___init__ (T : TX K mg) : FnOk P w K mg base (L2.CX P w) 5 T.m_Desk___init__.f T.m_Desk___init__.fd ["self", "cube"] (spD ⟨K, mg, []⟩ 2 t_Desk___init__) := fun_ok T.m_Desk___init__.F sc_Desk___init__ fun cdv A outer s H E hr =>
    (pssd_cons (psd_expr (pd_call (ok_need_cube T) (hr.mono (by decide)) T.d_need_cube.g T.d_need_cube.F.kp T.d_need_cube.b (takes_of rfl rfl rfl rfl) (pad_cons (pd_var 1) pad_nil)))
    (pssd_cons (psd_fld T.c_Desk.g T.c_Desk.cl T.n_Desk_cube (pd_var 0) (pd_var 1))
    (pssd_cons (psd_asgH (pd_tup (pad_cons (pd_new (pld_lst pad_nil)) (pad_cons (pd_new (pld_lst pad_nil)) pad_nil))) (phd_tup rfl (phsd_cons (phd_fld (W := W0) T.c_Desk.g T.c_Desk.cl T.n_Desk_deeds (pd_var 0)) (phsd_cons (phd_fld (W := W0) T.c_Desk.g T.c_Desk.cl T.n_Desk_taken (pd_var 0)) phsd_nil)) (lenH_cons (lenH_cons lenH_nil))))
    (pssd_one (psd_expr (pd_meth0 T.c_Desk.g (pd_var 0) T.c_Desk.cl T.m_Desk_clear.m (ok_Desk_clear T) (hr.mono (by decide)) T.m_Desk_clear.b (takes_of rfl rfl rfl rfl)))))))
def b_Desk_words : SM := (retS (callM tupleD (consA (fldD "Desk" "line" (varE 0)) nilA)))
def t_Desk_words : FM := fnD 1 b_Desk_words
theorem ok_Desk_words (T : TX K mg) : FnOk P w K mg base (L2.CX P w) 1 T.m_Desk_words.f T.m_Desk_words.fd ["self"] (spD ⟨K, mg, []⟩ 1 t_Desk_words) := fun_ok T.m_Desk_words.F sc_Desk_words fun cdv A outer s H E hr =>
    (pssd_one (psd_ret (pd_callTy T.z_tuple cd_tuple (pad_cons (pd_fld T.c_Desk.g T.c_Desk.cl T.n_Desk_line (pd_var 0)) pad_nil))))
def b_Desk_able : SM := (retS (callM tupleD (consA (frzE (compE (itR2 (consA (conE (.int 1)) (consA (bin2 addA (bin2 ixD (fldD "Desk" "cube" (varE 0)) (conE (.int 0))) (conE (.int 1))) nilA))) [1] (bName 1) (tst (methD "Desk" "can" t_Desk_can 2 (varE 0) (consA (tupE (consA (conE (.str [116, 117, 114, 110])) (consA (varE 1) nilA))) nilA))) (varE 1))) nilA)))
def t_Desk_able : FM := fnD 2 b_Desk_able
theorem ok_Desk_able (T : TX K mg) : FnOk P w K mg base (L2.CX P w) 3 T.m_Desk_able.f T.m_Desk_able.fd ["self"] (spD ⟨K, mg, []⟩ 1 t_Desk_able) := fun_ok T.m_Desk_able.F sc_Desk_able fun cdv A outer s H E hr =>
    (pssd_one (psd_ret (pd_callTy T.z_tuple cd_tuple (pad_cons (pd_frz (pld_lc [("place", 1)] rfl sc_Desk_able.nd (pid_rng2 T.z_range (pad_cons pd_int (pad_cons (pd_op od_add (pd_ix (pd_fld T.c_Desk.g T.c_Desk.cl T.n_Desk_cube (pd_var 0)) pd_int) pd_int) pad_nil))) (blkOk_by (N := ["self", "place"]) (sc := defScope s_Desk_able) (by decide +kernel)) (fun _ _ _ _ _ => (pgd_name sc_Desk_able.nd)) (fun _ _ _ _ _ => (ptsd_one (ptd_val (pd_meth T.c_Desk.g (pd_var 0) T.c_Desk.cl T.m_Desk_can.m (ok_Desk_can T) (hr.mono (by decide)) T.m_Desk_can.b takes0 (pad_cons (pd_tup (pad_cons (pd_str [116, 117, 114, 110]) (pad_cons (pd_var 1) pad_nil))) pad_nil))))) (fun _ _ _ _ _ => (pd_var 1)))) pad_nil))))
def b_all_words : SM := (seqS (setS 1 (frzE (lstE (consA (tupE nilA) nilA))))
    (seqS (forS (itR1 (consA (varE 0) nilA)) (bName 2) (setS 1 (frzE (comp2E (itQ (varE 1)) [3, 4] (bName 3) yesT (itQ (tupE (consA (conE (.int 0)) (consA (conE (.int 1)) nilA)))) [4] (bName 4) yesT (bin2 addA (varE 3) (tupE (consA (varE 4) nilA)))))))
    (retS (varE 1))))
def t_all_words : FM := fnD 5 b_all_words
theorem ok_all_words (T : TX K mg) : FnOk P w K mg base (L2.CX P w) 1 T.d_all_words.f T.d_all_words.fd ["signs"] (spD ⟨K, mg, []⟩ 1 t_all_words) := fun_ok T.d_all_words.F sc_all_words fun cdv A outer s H E hr =>
    (pssd_cons (psd_set sc_all_words.nd (pd_frz (pld_lst (pad_cons (pd_tup pad_nil) pad_nil))))
    (pssd_cons (psd_for (L2.passes_of rfl) rfl (pid_rng1 T.z_range (pad_cons (pd_var 0) pad_nil)) (pgd_name sc_all_words.nd) (pssd_one (psd_setLc2 (i := 1) frzE (fun _ _ _ q => QL.frz q) [("word", 3), ("sign", 4)] [4] rfl sc_all_words.nd (pid_sq (pd_var 1)) (blkOk_by (N := ["signs", "found", "turn", "word", "sign"]) (sc := defScope s_all_words) (by decide +kernel)) (fun _ _ _ _ _ => (pgd_name sc_all_words.nd)) (fun _ _ _ _ _ => ptsd_nil) (fun _ _ _ _ _ => (pid_sq (pd_tup (pad_cons pd_int (pad_cons pd_int pad_nil))))) (fun _ _ _ _ _ => (pgd_name sc_all_words.nd)) (fun _ _ _ _ _ => ptsd_nil) (fun _ _ _ _ _ => (pd_op od_add (pd_var 3) (pd_tup (pad_cons (pd_var 4) pad_nil)))))))
    (pssd_one (psd_ret (pd_var 1)))))
def b_Desk_left : SM := (retS (callM tupleD (consA (frzE (compE (itQ (callD t_all_words 1 (consA (bin2 ixD (fldD "Desk" "cube" (varE 0)) (conE (.int 0))) nilA))) [1] (bName 1) (andT (tst (bin2 (inA true) (varE 1) (fldD "Desk" "bars" (varE 0)))) (tst (bin2 (inA true) (varE 1) (fldD "Desk" "laid" (varE 0))))) (varE 1))) nilA)))
def t_Desk_left : FM := fnD 2 b_Desk_left
theorem ok_Desk_left (T : TX K mg) : FnOk P w K mg base (L2.CX P w) 2 T.m_Desk_left.f T.m_Desk_left.fd ["self"] (spD ⟨K, mg, []⟩ 1 t_Desk_left) := fun_ok T.m_Desk_left.F sc_Desk_left fun cdv A outer s H E hr =>
    (pssd_one (psd_ret (pd_callTy T.z_tuple cd_tuple (pad_cons (pd_frz (pld_lc [("word", 1)] rfl sc_Desk_left.nd (pid_sq (pd_call (ok_all_words T) (hr.mono (by decide)) T.d_all_words.g T.d_all_words.F.kp T.d_all_words.b (takes_of rfl rfl rfl rfl) (pad_cons (pd_ix (pd_fld T.c_Desk.g T.c_Desk.cl T.n_Desk_cube (pd_var 0)) pd_int) pad_nil))) (blkOk_by (N := ["self", "word"]) (sc := defScope s_Desk_left) (by decide +kernel)) (fun _ _ _ _ _ => (pgd_name sc_Desk_left.nd)) (fun _ _ _ _ _ => (ptsd_one (PWD.pt (pwd_and (ptd_cmp (od_notIn (hu65 hr)) (pd_var 1) (pd_fld T.c_Desk.g T.c_Desk.cl T.n_Desk_bars (pd_var 0))) (pwd_and1 (ptd_cmp (od_notIn (hu65 hr)) (pd_var 1) (pd_fld T.c_Desk.g T.c_Desk.cl T.n_Desk_laid (pd_var 0)))))))) (fun _ _ _ _ _ => (pd_var 1)))) pad_nil))))
def b_Desk_is_whole : SM := (retS (andV (bin2 neD (fldD "Desk" "line" (varE 0)) (frzE (lstE nilA))) (bin2 eqD (meth0D "Desk" "left" t_Desk_left (varE 0)) (tupE nilA))))
def t_Desk_is_whole : FM := fnD 1 b_Desk_is_whole
theorem ok_Desk_is_whole (T : TX K mg) : FnOk P w K mg base (L2.CX P w) 3 T.m_Desk_is_whole.f T.m_Desk_is_whole.fd ["self"] (spD ⟨K, mg, []⟩ 1 t_Desk_is_whole) := fun_ok T.m_Desk_is_whole.F sc_Desk_is_whole fun cdv A outer s H E hr =>
    (pssd_one (psd_ret (pd_and (pd_cmp (od_ne (hu65 hr)) (pd_fld T.c_Desk.g T.c_Desk.cl T.n_Desk_line (pd_var 0)) (pd_frz (pld_lst pad_nil))) (pd_one (pd_cmp (od_eq (hu65 hr)) (pd_meth0 T.c_Desk.g (pd_var 0) T.c_Desk.cl T.m_Desk_left.m (ok_Desk_left T) (hr.mono (by decide)) T.m_Desk_left.b (takes_of rfl rfl rfl rfl)) (pd_tup pad_nil))))))
def b__law_rows_right : SM := (seqS (par3S 0 1 2 (consA (makeD "Desk" t_Desk___init__ 2 (consA (tupE (consA (conE (.int 1)) (consA (tupE nilA) nilA))) nilA)) (consA (makeD "Desk" t_Desk___init__ 2 (consA (tupE (consA (conE (.int 2)) (consA (tupE nilA) nilA))) nilA)) (consA (makeD "Desk" t_Desk___init__ 2 (consA (tupE (consA (conE (.int 1)) (consA (tupE nilA) nilA))) nilA)) nilA))))
    (seqS (dropS (methD "Desk" "begin" t_Desk_begin 2 (varE 0) (consA (tupE (consA (conE (.int 0)) nilA)) nilA)))
    (seqS (dropS (methD "Desk" "turn" t_Desk_turn 2 (varE 0) (consA (conE (.int 1)) nilA)))
    (seqS (dropS (meth0D "Desk" "undo" t_Desk_undo (varE 0)))
    (seqS (dropS (methD "Desk" "begin" t_Desk_begin 2 (varE 1) (consA (tupE (consA (conE (.int 0)) (consA (conE (.int 0)) nilA))) nilA)))
    (seqS (dropS (methD "Desk" "turn" t_Desk_turn 2 (varE 1) (consA (conE (.int 1)) nilA)))
    (seqS (dropS (methD "Desk" "bar" t_Desk_bar 2 (varE 2) (consA (tupE (consA (conE (.int 0)) nilA)) nilA)))
    (seqS (dropS (methD "Desk" "bar" t_Desk_bar 2 (varE 2) (consA (tupE (consA (conE (.int 1)) nilA)) nilA)))
    (retS (andV (bin2 eqD (meth0D "Desk" "words" t_Desk_words (varE 0)) (tupE (consA (tupE (consA (conE (.int 0)) nilA)) nilA))) (andV (bin2 eqD (meth0D "Desk" "able" t_Desk_able (varE 1)) (tupE (consA (conE (.int 2)) nilA))) (bin2 isA (meth0D "Desk" "is_whole" t_Desk_is_whole (varE 2)) (conE (.bl false))))))))))))))
def t__law_rows_right : FM := fnD 3 b__law_rows_right
theorem ok__law_rows_right (T : TX K mg) : FnOk P w K mg base (L2.CX P w) 7 T.d__law_rows_right.f T.d__law_rows_right.fd [] (spD ⟨K, mg, []⟩ 0 t__law_rows_right) := fun_ok T.d__law_rows_right.F sc__law_rows_right fun cdv A outer s H E hr =>
    (pssd_cons (psd_par3 rfl sc__law_rows_right.nd (pad_cons (pd_make T.mk_Desk (ok_Desk___init__ T) (hr.mono (by decide)) T.c_Desk.g T.m_Desk___init__.b (pad_cons (pd_tup (pad_cons pd_int (pad_cons (pd_tup pad_nil) pad_nil))) pad_nil)) (pad_cons (pd_make T.mk_Desk (ok_Desk___init__ T) (hr.mono (by decide)) T.c_Desk.g T.m_Desk___init__.b (pad_cons (pd_tup (pad_cons pd_int (pad_cons (pd_tup pad_nil) pad_nil))) pad_nil)) (pad_cons (pd_make T.mk_Desk (ok_Desk___init__ T) (hr.mono (by decide)) T.c_Desk.g T.m_Desk___init__.b (pad_cons (pd_tup (pad_cons pd_int (pad_cons (pd_tup pad_nil) pad_nil))) pad_nil)) pad_nil))))
    (pssd_cons (psd_expr (pd_meth T.c_Desk.g (pd_var 0) T.c_Desk.cl T.m_Desk_begin.m (ok_Desk_begin T) (hr.mono (by decide)) T.m_Desk_begin.b (takes_of rfl rfl rfl rfl) (pad_cons (pd_tup (pad_cons pd_int pad_nil)) pad_nil)))
    (pssd_cons (psd_expr (pd_meth T.c_Desk.g (pd_var 0) T.c_Desk.cl T.m_Desk_turn.m (ok_Desk_turn T) (hr.mono (by decide)) T.m_Desk_turn.b (takes_of rfl rfl rfl rfl) (pad_cons pd_int pad_nil)))
    (pssd_cons (psd_expr (pd_meth0 T.c_Desk.g (pd_var 0) T.c_Desk.cl T.m_Desk_undo.m (ok_Desk_undo T) (hr.mono (by decide)) T.m_Desk_undo.b (takes_of rfl rfl rfl rfl)))
    (pssd_cons (psd_expr (pd_meth T.c_Desk.g (pd_var 1) T.c_Desk.cl T.m_Desk_begin.m (ok_Desk_begin T) (hr.mono (by decide)) T.m_Desk_begin.b (takes_of rfl rfl rfl rfl) (pad_cons (pd_tup (pad_cons pd_int (pad_cons pd_int pad_nil))) pad_nil)))
    (pssd_cons (psd_expr (pd_meth T.c_Desk.g (pd_var 1) T.c_Desk.cl T.m_Desk_turn.m (ok_Desk_turn T) (hr.mono (by decide)) T.m_Desk_turn.b (takes_of rfl rfl rfl rfl) (pad_cons pd_int pad_nil)))
    (pssd_cons (psd_expr (pd_meth T.c_Desk.g (pd_var 2) T.c_Desk.cl T.m_Desk_bar.m (ok_Desk_bar T) (hr.mono (by decide)) T.m_Desk_bar.b (takes_of rfl rfl rfl rfl) (pad_cons (pd_tup (pad_cons pd_int pad_nil)) pad_nil)))
    (pssd_cons (psd_expr (pd_meth T.c_Desk.g (pd_var 2) T.c_Desk.cl T.m_Desk_bar.m (ok_Desk_bar T) (hr.mono (by decide)) T.m_Desk_bar.b (takes_of rfl rfl rfl rfl) (pad_cons (pd_tup (pad_cons pd_int pad_nil)) pad_nil)))
    (pssd_one (psd_ret (pd_and (pd_cmp (od_eq (hu65 hr)) (pd_meth0 T.c_Desk.g (pd_var 0) T.c_Desk.cl T.m_Desk_words.m (ok_Desk_words T) (hr.mono (by decide)) T.m_Desk_words.b (takes_of rfl rfl rfl rfl)) (pd_tup (pad_cons (pd_tup (pad_cons pd_int pad_nil)) pad_nil))) (pd_and (pd_cmp (od_eq (hu65 hr)) (pd_meth0 T.c_Desk.g (pd_var 1) T.c_Desk.cl T.m_Desk_able.m (ok_Desk_able T) (hr.mono (by decide)) T.m_Desk_able.b (takes_of rfl rfl rfl rfl)) (pd_tup (pad_cons pd_int pad_nil))) (pd_one (pd_cmp od_is (pd_meth0 T.c_Desk.g (pd_var 2) T.c_Desk.cl T.m_Desk_is_whole.m (ok_Desk_is_whole T) (hr.mono (by decide)) T.m_Desk_is_whole.b (takes_of rfl rfl rfl rfl)) pd_bl))))))))))))))
def b__law_roll : SM := (seqS (ifS (tst (bin2 gtI (bin2 ixD (varE 0) (conE (.int 0))) (conE (.int 0)))) (seqS (setS 2 (bin2 modI (callM intD (consA (bin2 ixD (varE 0) (conE (.int 0))) nilA)) (varE 1)))
    (seqS (ixS (varE 0) (conE (.int 0)) (bin2 divI (bin2 ixD (varE 0) (conE (.int 0))) (varE 1)))
    (retS (varE 2)))) nxS)
    (seqS (ixS (varE 0) (conE (.int 1)) (bin2 modI (callM intD (consA (bin2 addA (bin2 mulA (bin2 ixD (varE 0) (conE (.int 1))) (conE (.int 27180))) (conE (.int 7643))) nilA)) (conE (.int 2147483423))))
    (seqS (setS 3 (bin2 modI (callM intD (consA (bin2 mulA (bin2 ixD (varE 0) (conE (.int 1))) (bin2 addA (bin2 ixD (varE 0) (conE (.int 1))) (conE (.int 2287)))) nilA)) (conE (.int 2147483587))))
    (retS (bin2 modI (callM intD (consA (bin2 divI (varE 3) (conE (.int 3079))) nilA)) (varE 1))))))
def t__law_roll : FM := fnD 4 b__law_roll
theorem ok__law_roll (T : TX K mg) : FnOk P w K mg base (L2.CX P w) 1 T.d__law_roll.f T.d__law_roll.fd ["cup", "many"] (spD ⟨K, mg, []⟩ 2 t__law_roll) := fun_ok T.d__law_roll.F sc__law_roll fun cdv A outer s H E hr =>
    (pssd_cons (psd_if (ptd_cmp od_gtI (pd_ix (pd_var 0) pd_int) pd_int) (pssd_cons (psd_set sc__law_roll.nd (pd_op od_mod (pd_callTy T.z_int cd_int (pad_cons (pd_ix (pd_var 0) pd_int) pad_nil)) (pd_var 1)))
    (pssd_cons (psd_ix (hu65 hr) (pd_var 0) pd_int (pd_op od_div (pd_ix (pd_var 0) pd_int) (pd_var 1)))
    (pssd_one (psd_ret (pd_var 2))))) pssd_nil)
    (pssd_cons (psd_ix (hu65 hr) (pd_var 0) pd_int (pd_op od_mod (pd_callTy T.z_int cd_int (pad_cons (pd_op od_add (pd_op od_mul (pd_ix (pd_var 0) pd_int) pd_int) pd_int) pad_nil)) pd_int))
    (pssd_cons (psd_set sc__law_roll.nd (pd_op od_mod (pd_callTy T.z_int cd_int (pad_cons (pd_op od_mul (pd_ix (pd_var 0) pd_int) (pd_op od_add (pd_ix (pd_var 0) pd_int) pd_int)) pad_nil)) pd_int))
    (pssd_one (psd_ret (pd_op od_mod (pd_callTy T.z_int cd_int (pad_cons (pd_op od_div (pd_var 3) pd_int) pad_nil)) (pd_var 1)))))))
def b__law_word : SM := (retS (callM tupleD (consA (frzE (compE (itR1 (consA (varE 1) nilA)) [2] (bName 2) yesT (callD t__law_roll 2 (consA (varE 0) (consA (conE (.int 2)) nilA))))) nilA)))
def t__law_word : FM := fnD 3 b__law_word
theorem ok__law_word (T : TX K mg) : FnOk P w K mg base (L2.CX P w) 2 T.d__law_word.f T.d__law_word.fd ["cup", "signs"] (spD ⟨K, mg, []⟩ 2 t__law_word) := fun_ok T.d__law_word.F sc__law_word fun cdv A outer s H E hr =>
    (pssd_one (psd_ret (pd_callTy T.z_tuple cd_tuple (pad_cons (pd_frz (pld_lc [("turn", 2)] rfl sc__law_word.nd (pid_rng1 T.z_range (pad_cons (pd_var 1) pad_nil)) (blkOk_by (N := ["cup", "signs", "turn"]) (sc := defScope s__law_word) (by decide +kernel)) (fun _ _ _ _ _ => (pgd_name sc__law_word.nd)) (fun _ _ _ _ _ => ptsd_nil) (fun _ _ _ _ _ => (pd_call (ok__law_roll T) (hr.mono (by decide)) T.d__law_roll.g T.d__law_roll.F.kp T.d__law_roll.b takes0 (pad_cons (pd_var 0) (pad_cons pd_int pad_nil)))))) pad_nil))))
def b__law_cube : SM := (retS (tupE (consA (varE 1) (consA (callM tupleD (consA (frzE (callLM (sortSD 2) (consA (frzE (compE (itR1 (consA (callD t__law_roll 2 (consA (varE 0) (consA (conE (.int 5)) nilA))) nilA)) [2] (bName 2) yesT (callD t__law_word 2 (consA (varE 0) (consA (varE 1) nilA))))) nilA))) nilA)) nilA))))
def t__law_cube : FM := fnD 3 b__law_cube
theorem ok__law_cube (T : TX K mg) : FnOk P w K mg base (L2.CX P w) 3 T.d__law_cube.f T.d__law_cube.fd ["cup", "signs"] (spD ⟨K, mg, []⟩ 2 t__law_cube) := fun_ok T.d__law_cube.F sc__law_cube fun cdv A outer s H E hr =>
    (pssd_one (psd_ret (pd_tup (pad_cons (pd_var 1) (pad_cons (pd_callTy T.z_tuple cd_tuple (pad_cons (pd_frz (pld_sortSet 2 rfl (hu64 hr) T.z_sorted T.z_set (pad_cons (pd_frz (pld_lc [("turn", 2)] rfl sc__law_cube.nd (pid_rng1 T.z_range (pad_cons (pd_call (ok__law_roll T) (hr.mono (by decide)) T.d__law_roll.g T.d__law_roll.F.kp T.d__law_roll.b (takes_of rfl rfl rfl rfl) (pad_cons (pd_var 0) (pad_cons pd_int pad_nil))) pad_nil)) (blkOk_by (N := ["cup", "signs", "turn"]) (sc := defScope s__law_cube) (by decide +kernel)) (fun _ _ _ _ _ => (pgd_name sc__law_cube.nd)) (fun _ _ _ _ _ => ptsd_nil) (fun _ _ _ _ _ => (pd_call (ok__law_word T) (hr.mono (by decide)) T.d__law_word.g T.d__law_word.F.kp T.d__law_word.b takes0 (pad_cons (pd_var 0) (pad_cons (pd_var 1) pad_nil)))))) pad_nil))) pad_nil)) pad_nil)))))
def b__law_turn : SM := (retS (callM tupleD (consA (frzE (compE (itEn (consA (varE 0) nilA)) [2, 3] (bTup (bCons (bName 2) (bCons (bName 3) bNil))) yesT (ifE (tst (bin2 eqD (bin2 addA (varE 2) (conE (.int 1))) (varE 1))) (bin2 subI (conE (.int 1)) (varE 3)) (varE 3)))) nilA)))
def t__law_turn : FM := fnD 4 b__law_turn
theorem ok__law_turn (T : TX K mg) : FnOk P w K mg base (L2.CX P w) 1 T.d__law_turn.f T.d__law_turn.fd ["word", "place"] (spD ⟨K, mg, []⟩ 2 t__law_turn) := fun_ok T.d__law_turn.F sc__law_turn fun cdv A outer s H E hr =>
    (pssd_one (psd_ret (pd_callTy T.z_tuple cd_tuple (pad_cons (pd_frz (pld_lc [("at", 2), ("sign", 3)] rfl sc__law_turn.nd (pid_en T.z_enumerate (pad_cons (pd_var 0) pad_nil)) (blkOk_by (N := ["word", "place", "at", "sign"]) (sc := defScope s__law_turn) (by decide +kernel)) (fun _ _ _ _ _ => (pgd_tup rfl (pgsd_cons (pgd_name sc__law_turn.nd) (pgsd_cons (pgd_name sc__law_turn.nd) pgsd_nil)) (lenB_cons (lenB_cons lenB_nil)))) (fun _ _ _ _ _ => ptsd_nil) (fun _ _ _ _ _ => (pd_if (ptd_cmp (od_eq (hu65 hr)) (pd_op od_add (pd_var 2) pd_int) (pd_var 1)) (pd_op od_sub pd_int (pd_var 3)) (pd_var 3))))) pad_nil))))
def b__law_at : SM := (seqS (parS 2 3 (consA (newE (lstE nilA)) (consA (newE (callLM listD (consA (bin2 ixD (varE 0) (conE (.int 1))) nilA))) nilA)))
    (seqS (forS (itQ (varE 1)) (bTup (bCons (bName 4) (bCons (bName 5) bNil))) (ifS (andT (tst (bin2 eqD (varE 4) (conE (.str [98, 101, 103, 105, 110])))) (andT (tst (bin2 eqD (varE 2) (frzE (lstE nilA)))) (tst (bin2 (inA true) (varE 5) (varE 3))))) (dropS (mthD appD (varE 2) (consA (varE 5) nilA))) (ifS (andT (tst (bin2 eqD (varE 4) (conE (.str [116, 117, 114, 110])))) (andT (tst (bin2 neD (varE 2) (frzE (lstE nilA)))) (tst (bin2 (inA true) (callD t__law_turn 2 (consA (bin2 ixD (varE 2) (un1 negI (conE (.int 1)))) (consA (varE 5) nilA))) (bin2 addA (varE 3) (varE 2)))))) (dropS (mthD appD (varE 2) (consA (callD t__law_turn 2 (consA (bin2 ixD (varE 2) (un1 negI (conE (.int 1)))) (consA (varE 5) nilA))) nilA))) (ifS (andT (tst (bin2 eqD (varE 4) (conE (.str [98, 97, 114])))) (tst (bin2 (inA true) (varE 5) (bin2 addA (varE 3) (varE 2))))) (dropS (mthD appD (varE 3) (consA (varE 5) nilA))) (ifS (andT (tst (bin2 eqD (varE 4) (conE (.str [102, 114, 101, 101])))) (tst (bin2 (inA false) (varE 5) (varE 3)))) (dropS (mthD remD (varE 3) (consA (varE 5) nilA))) (retS (conE .non)))))))
    (retS (tupE (consA (varE 2) (consA (varE 3) nilA))))))
def t__law_at : FM := fnD 6 b__law_at
theorem ok__law_at (T : TX K mg) : FnOk P w K mg base (L2.CX P w) 2 T.d__law_at.f T.d__law_at.fd ["cube", "deeds"] (spD ⟨K, mg, []⟩ 2 t__law_at) := fun_ok T.d__law_at.F sc__law_at fun cdv A outer s H E hr =>
    (pssd_cons (psd_par rfl sc__law_at.nd (pad_cons (pd_new (pld_lst pad_nil)) (pad_cons (pd_new (pld_callTy T.z_list cd_list (pad_cons (pd_ix (pd_var 0) pd_int) pad_nil))) pad_nil)))
    (pssd_cons (psd_for (L2.passes_of rfl) rfl (pid_sq (pd_var 1)) (pgd_tup rfl (pgsd_cons (pgd_name sc__law_at.nd) (pgsd_cons (pgd_name sc__law_at.nd) pgsd_nil)) (lenB_cons (lenB_cons lenB_nil))) (pssd_one (psd_if (PWD.pt (pwd_and (ptd_cmp (od_eq (hu65 hr)) (pd_var 4) (pd_str [98, 101, 103, 105, 110])) (pwd_and (ptd_cmp (od_eq (hu65 hr)) (pd_var 2) (pd_frz (pld_lst pad_nil))) (pwd_and1 (ptd_cmp (od_notIn (hu65 hr)) (pd_var 5) (pd_var 3)))))) (pssd_one (psd_expr (pd_mth PySem.F.slot_list_append PySem.F.type_list_append md_app (pd_var 2) (pad_cons (pd_var 5) pad_nil)))) (pssd_one (psd_if (PWD.pt (pwd_and (ptd_cmp (od_eq (hu65 hr)) (pd_var 4) (pd_str [116, 117, 114, 110])) (pwd_and (ptd_cmp (od_ne (hu65 hr)) (pd_var 2) (pd_frz (pld_lst pad_nil))) (pwd_and1 (ptd_cmp (od_notIn (hu65 hr)) (pd_call (ok__law_turn T) (hr.mono (by decide)) T.d__law_turn.g T.d__law_turn.F.kp T.d__law_turn.b (takes_of rfl rfl rfl rfl) (pad_cons (pd_ix (pd_var 2) (pd_neg pd_int)) (pad_cons (pd_var 5) pad_nil))) (pd_op od_add (pd_var 3) (pd_var 2))))))) (pssd_one (psd_expr (pd_mth PySem.F.slot_list_append PySem.F.type_list_append md_app (pd_var 2) (pad_cons (pd_call (ok__law_turn T) (hr.mono (by decide)) T.d__law_turn.g T.d__law_turn.F.kp T.d__law_turn.b (takes_of rfl rfl rfl rfl) (pad_cons (pd_ix (pd_var 2) (pd_neg pd_int)) (pad_cons (pd_var 5) pad_nil))) pad_nil)))) (pssd_one (psd_if (PWD.pt (pwd_and (ptd_cmp (od_eq (hu65 hr)) (pd_var 4) (pd_str [98, 97, 114])) (pwd_and1 (ptd_cmp (od_notIn (hu65 hr)) (pd_var 5) (pd_op od_add (pd_var 3) (pd_var 2)))))) (pssd_one (psd_expr (pd_mth PySem.F.slot_list_append PySem.F.type_list_append md_app (pd_var 3) (pad_cons (pd_var 5) pad_nil)))) (pssd_one (psd_if (PWD.pt (pwd_and (ptd_cmp (od_eq (hu65 hr)) (pd_var 4) (pd_str [102, 114, 101, 101])) (pwd_and1 (ptd_cmp (od_in (hu65 hr)) (pd_var 5) (pd_var 3))))) (pssd_one (psd_expr (pd_mth PySem.F.slot_list_remove PySem.F.type_list_remove (md_rem (hu65 hr)) (pd_var 3) (pad_cons (pd_var 5) pad_nil)))) (pssd_one (psd_ret pd_non)))))))))))
    (pssd_one (psd_ret (pd_tup (pad_cons (pd_var 2) (pad_cons (pd_var 3) pad_nil)))))))
def b__law_same (φ : FM) : SM := (seqS (ifS (orT (tst (callM isiD (consA (varE 1) (consA (conE (.ty "tuple")) nilA)))) (tst (callM isiD (consA (varE 1) (consA (conE (.ty "list")) nilA))))) (seqS (ifS (orT (tst (bin2 neD (callM isiD (consA (varE 0) (consA (conE (.ty "tuple")) nilA))) (callM isiD (consA (varE 1) (consA (conE (.ty "tuple")) nilA))))) (orT (tst (bin2 neD (callM isiD (consA (varE 0) (consA (conE (.ty "list")) nilA))) (callM isiD (consA (varE 1) (consA (conE (.ty "list")) nilA))))) (tst (bin2 neD (callM lenD (consA (varE 0) nilA)) (callM lenD (consA (varE 1) nilA)))))) (retS (conE (.bl false))) nxS)
    (retS (bin2 eqD (frzE (compE (itR1 (consA (callM lenD (consA (varE 1) nilA)) nilA)) [2] (bName 2) (notT (tst (callD φ 2 (consA (bin2 ixD (varE 0) (varE 2)) (consA (bin2 ixD (varE 1) (varE 2)) nilA))))) (conE (.int 1)))) (frzE (lstE nilA))))) nxS)
    (seqS (ifS (tst (bin2 isA (varE 1) (conE .non))) (retS (bin2 isA (varE 0) (conE .non))) nxS)
    (seqS (ifS (tst (callM isiD (consA (varE 1) (consA (conE (.ty "bool")) nilA)))) (retS (ifE (tst (varE 1)) (bin2 isA (varE 0) (conE (.bl true))) (bin2 isA (varE 0) (conE (.bl false))))) nxS)
    (seqS (ifS (tst (callM isiD (consA (varE 1) (consA (conE (.ty "int")) nilA)))) (retS (andV (callM isiD (consA (varE 0) (consA (conE (.ty "int")) nilA))) (andV (notV (callM isiD (consA (varE 0) (consA (conE (.ty "bool")) nilA)))) (bin2 eqD (callM intD (consA (varE 0) nilA)) (varE 1))))) nxS)
    (retS (andV (callM isiD (consA (varE 0) (consA (conE (.ty "str")) nilA))) (bin2 eqD (callM strD (consA (varE 0) nilA)) (varE 1))))))))
def t__law_same : Nat → FM
  | 0 => fnD 3 (fun _ _ => .bad)
  | n + 1 => fnD 3 (b__law_same (t__law_same n))
theorem ok__law_same (T : TX K mg) : ∀ n : Nat, FnOk P w K mg base (L2.CX P w) (n + 1) T.d__law_same.f T.d__law_same.fd ["told", "due"] (spD ⟨K, mg, []⟩ 2 (t__law_same n))
  | 0 => bad_ok T.d__law_same.F sc__law_same
  | n + 1 => by
    rw [show n + 1 + 1 = (n + 1) + 1 by omega]
    exact fun_ok T.d__law_same.F sc__law_same fun cdv A outer s H E hr => (pssd_cons (psd_if (PWD.pt (pwd_or (ptd_val (pd_callB T.z_isinstance cd_isi (pad_cons (pd_var 1) (pad_cons (pd_ty "tuple" T.z_tuple) pad_nil)))) (pwd_or1 (ptd_val (pd_callB T.z_isinstance cd_isi (pad_cons (pd_var 1) (pad_cons (pd_ty "list" T.z_list) pad_nil))))))) (pssd_cons (psd_if (PWD.pt (pwd_or (ptd_cmp (od_ne (hu65 hr)) (pd_callB T.z_isinstance cd_isi (pad_cons (pd_var 0) (pad_cons (pd_ty "tuple" T.z_tuple) pad_nil))) (pd_callB T.z_isinstance cd_isi (pad_cons (pd_var 1) (pad_cons (pd_ty "tuple" T.z_tuple) pad_nil)))) (pwd_or (ptd_cmp (od_ne (hu65 hr)) (pd_callB T.z_isinstance cd_isi (pad_cons (pd_var 0) (pad_cons (pd_ty "list" T.z_list) pad_nil))) (pd_callB T.z_isinstance cd_isi (pad_cons (pd_var 1) (pad_cons (pd_ty "list" T.z_list) pad_nil)))) (pwd_or1 (ptd_cmp (od_ne (hu65 hr)) (pd_callB T.z_len cd_len (pad_cons (pd_var 0) pad_nil)) (pd_callB T.z_len cd_len (pad_cons (pd_var 1) pad_nil))))))) (pssd_one (psd_ret pd_bl)) pssd_nil)
    (pssd_one (psd_ret (pd_cmp (od_eq (hu65 hr)) (pd_frz (pld_lc [("at", 2)] rfl sc__law_same.nd (pid_rng1 T.z_range (pad_cons (pd_callB T.z_len cd_len (pad_cons (pd_var 1) pad_nil)) pad_nil)) (blkOk_by (N := ["told", "due", "at"]) (sc := defScope s__law_same) (by decide +kernel)) (fun _ _ _ _ _ => (pgd_name sc__law_same.nd)) (fun _ _ _ _ _ => (ptsd_one (ptd_not (ptd_val (pd_call (ok__law_same T n) (hr.mono (by omega)) T.d__law_same.g T.d__law_same.F.kp T.d__law_same.b takes0 (pad_cons (pd_ix (pd_var 0) (pd_var 2)) (pad_cons (pd_ix (pd_var 1) (pd_var 2)) pad_nil))))))) (fun _ _ _ _ _ => pd_int))) (pd_frz (pld_lst pad_nil)))))) pssd_nil)
    (pssd_cons (psd_if (ptd_cmp od_is (pd_var 1) pd_non) (pssd_one (psd_ret (pd_cmp od_is (pd_var 0) pd_non))) pssd_nil)
    (pssd_cons (psd_if (ptd_val (pd_callB T.z_isinstance cd_isi (pad_cons (pd_var 1) (pad_cons (pd_ty "bool" T.z_bool) pad_nil)))) (pssd_one (psd_ret (pd_if (ptd_val (pd_var 1)) (pd_cmp od_is (pd_var 0) pd_bl) (pd_cmp od_is (pd_var 0) pd_bl)))) pssd_nil)
    (pssd_cons (psd_if (ptd_val (pd_callB T.z_isinstance cd_isi (pad_cons (pd_var 1) (pad_cons (pd_ty "int" T.z_int) pad_nil)))) (pssd_one (psd_ret (pd_and (pd_callB T.z_isinstance cd_isi (pad_cons (pd_var 0) (pad_cons (pd_ty "int" T.z_int) pad_nil))) (pd_and (pd_not (pd_callB T.z_isinstance cd_isi (pad_cons (pd_var 0) (pad_cons (pd_ty "bool" T.z_bool) pad_nil)))) (pd_one (pd_cmp (od_eq (hu65 hr)) (pd_callTy T.z_int cd_int (pad_cons (pd_var 0) pad_nil)) (pd_var 1))))))) pssd_nil)
    (pssd_one (psd_ret (pd_and (pd_callB T.z_isinstance cd_isi (pad_cons (pd_var 0) (pad_cons (pd_ty "str" T.z_str) pad_nil))) (pd_one (pd_cmp (od_eq (hu65 hr)) (pd_callTy T.z_str cd_str (pad_cons (pd_var 0) pad_nil)) (pd_var 1))))))))))
def b_Desk_barred : SM := (retS (callM tupleD (consA (frzE (callLM (sortA 2) (consA (fldD "Desk" "bars" (varE 0)) nilA))) nilA)))
def t_Desk_barred : FM := fnD 1 b_Desk_barred
theorem ok_Desk_barred (T : TX K mg) : FnOk P w K mg base (L2.CX P w) 1 T.m_Desk_barred.f T.m_Desk_barred.fd ["self"] (spD ⟨K, mg, []⟩ 1 t_Desk_barred) := fun_ok T.m_Desk_barred.F sc_Desk_barred fun cdv A outer s H E hr =>
    (pssd_one (psd_ret (pd_callTy T.z_tuple cd_tuple (pad_cons (pd_frz (pld_callB T.z_sorted (cd_sort 2 rfl) (pad_cons (pd_fld T.c_Desk.g T.c_Desk.cl T.n_Desk_bars (pd_var 0)) pad_nil))) pad_nil))))
def b_Desk_log : SM := (retS (callM tupleD (consA (fldD "Desk" "deeds" (varE 0)) nilA)))
def t_Desk_log : FM := fnD 1 b_Desk_log
theorem ok_Desk_log (T : TX K mg) : FnOk P w K mg base (L2.CX P w) 1 T.m_Desk_log.f T.m_Desk_log.fd ["self"] (spD ⟨K, mg, []⟩ 1 t_Desk_log) := fun_ok T.m_Desk_log.F sc_Desk_log fun cdv A outer s H E hr =>
    (pssd_one (psd_ret (pd_callTy T.z_tuple cd_tuple (pad_cons (pd_fld T.c_Desk.g T.c_Desk.cl T.n_Desk_deeds (pd_var 0)) pad_nil))))
def b__law_all : SM := (seqS (setS 1 (frzE (lstE (consA (tupE nilA) nilA))))
    (seqS (forS (itR1 (consA (varE 0) nilA)) (bName 2) (setS 1 (bin2 addA (frzE (compE (itQ (varE 1)) [3] (bName 3) yesT (bin2 addA (varE 3) (tupE (consA (conE (.int 0)) nilA))))) (frzE (compE (itQ (varE 1)) [3] (bName 3) yesT (bin2 addA (varE 3) (tupE (consA (conE (.int 1)) nilA))))))))
    (retS (frzE (callLM (sortA 2) (consA (varE 1) nilA))))))
def t__law_all : FM := fnD 4 b__law_all
theorem ok__law_all (T : TX K mg) : FnOk P w K mg base (L2.CX P w) 1 T.d__law_all.f T.d__law_all.fd ["signs"] (spD ⟨K, mg, []⟩ 1 t__law_all) := fun_ok T.d__law_all.F sc__law_all fun cdv A outer s H E hr =>
    (pssd_cons (psd_set sc__law_all.nd (pd_frz (pld_lst (pad_cons (pd_tup pad_nil) pad_nil))))
    (pssd_cons (psd_for (L2.passes_of rfl) rfl (pid_rng1 T.z_range (pad_cons (pd_var 0) pad_nil)) (pgd_name sc__law_all.nd) (pssd_one (psd_set sc__law_all.nd (pd_op od_add (pd_frz (pld_lc [("word", 3)] rfl sc__law_all.nd (pid_sq (pd_var 1)) (blkOk_by (N := ["signs", "found", "turn", "word"]) (sc := defScope s__law_all) (by decide +kernel)) (fun _ _ _ _ _ => (pgd_name sc__law_all.nd)) (fun _ _ _ _ _ => ptsd_nil) (fun _ _ _ _ _ => (pd_op od_add (pd_var 3) (pd_tup (pad_cons pd_int pad_nil)))))) (pd_frz (pld_lc [("word", 3)] rfl sc__law_all.nd (pid_sq (pd_var 1)) (blkOk_by (N := ["signs", "found", "turn", "word"]) (sc := defScope s__law_all) (by decide +kernel)) (fun _ _ _ _ _ => (pgd_name sc__law_all.nd)) (fun _ _ _ _ _ => ptsd_nil) (fun _ _ _ _ _ => (pd_op od_add (pd_var 3) (pd_tup (pad_cons pd_int pad_nil))))))))))
    (pssd_one (psd_ret (pd_frz (pld_callB T.z_sorted (cd_sort 2 rfl) (pad_cons (pd_var 1) pad_nil)))))))
def b_unlike_in : SM := (retS (frzE (compE (itR1 (consA (callM lenD (consA (varE 0) nilA)) nilA)) [2] (bName 2) (tst (bin2 neD (bin2 ixD (varE 0) (varE 2)) (bin2 ixD (varE 1) (varE 2)))) (bin2 addA (varE 2) (conE (.int 1))))))
def t_unlike_in : FM := fnD 3 b_unlike_in
theorem ok_unlike_in (T : TX K mg) : FnOk P w K mg base (L2.CX P w) 1 T.d_unlike_in.f T.d_unlike_in.fd ["one", "other"] (spD ⟨K, mg, []⟩ 2 t_unlike_in) := fun_ok T.d_unlike_in.F sc_unlike_in fun cdv A outer s H E hr =>
    (pssd_one (psd_ret (pd_frz (pld_lc [("at", 2)] rfl sc_unlike_in.nd (pid_rng1 T.z_range (pad_cons (pd_callB T.z_len cd_len (pad_cons (pd_var 0) pad_nil)) pad_nil)) (blkOk_by (N := ["one", "other", "at"]) (sc := defScope s_unlike_in) (by decide +kernel)) (fun _ _ _ _ _ => (pgd_name sc_unlike_in.nd)) (fun _ _ _ _ _ => (ptsd_one (ptd_cmp (od_ne (hu65 hr)) (pd_ix (pd_var 0) (pd_var 2)) (pd_ix (pd_var 1) (pd_var 2))))) (fun _ _ _ _ _ => (pd_op od_add (pd_var 2) pd_int))))))
def b_Desk_is_round : SM := (retS (andV (bin2 gtI (callM lenD (consA (fldD "Desk" "line" (varE 0)) nilA)) (conE (.int 2))) (bin2 eqD (callM lenD (consA (callD t_unlike_in 2 (consA (bin2 ixD (fldD "Desk" "line" (varE 0)) (conE (.int 0))) (consA (bin2 ixD (fldD "Desk" "line" (varE 0)) (un1 negI (conE (.int 1)))) nilA))) nilA)) (conE (.int 1)))))
def t_Desk_is_round : FM := fnD 1 b_Desk_is_round
theorem ok_Desk_is_round (T : TX K mg) : FnOk P w K mg base (L2.CX P w) 2 T.m_Desk_is_round.f T.m_Desk_is_round.fd ["self"] (spD ⟨K, mg, []⟩ 1 t_Desk_is_round) := fun_ok T.m_Desk_is_round.F sc_Desk_is_round fun cdv A outer s H E hr =>
    (pssd_one (psd_ret (pd_and (pd_cmp od_gtI (pd_callB T.z_len cd_len (pad_cons (pd_fld T.c_Desk.g T.c_Desk.cl T.n_Desk_line (pd_var 0)) pad_nil)) pd_int) (pd_one (pd_cmp (od_eq (hu65 hr)) (pd_callB T.z_len cd_len (pad_cons (pd_call (ok_unlike_in T) (hr.mono (by decide)) T.d_unlike_in.g T.d_unlike_in.F.kp T.d_unlike_in.b (takes_of rfl rfl rfl rfl) (pad_cons (pd_ix (pd_fld T.c_Desk.g T.c_Desk.cl T.n_Desk_line (pd_var 0)) pd_int) (pad_cons (pd_ix (pd_fld T.c_Desk.g T.c_Desk.cl T.n_Desk_line (pd_var 0)) (pd_neg pd_int)) pad_nil))) pad_nil)) pd_int)))))
def b__law_unlike : SM := (retS (frzE (compE (itR1 (consA (callM lenD (consA (varE 0) nilA)) nilA)) [2] (bName 2) (tst (bin2 neD (bin2 ixD (varE 0) (varE 2)) (bin2 ixD (varE 1) (varE 2)))) (bin2 addA (varE 2) (conE (.int 1))))))
def t__law_unlike : FM := fnD 3 b__law_unlike
theorem ok__law_unlike (T : TX K mg) : FnOk P w K mg base (L2.CX P w) 1 T.d__law_unlike.f T.d__law_unlike.fd ["one", "other"] (spD ⟨K, mg, []⟩ 2 t__law_unlike) := fun_ok T.d__law_unlike.F sc__law_unlike fun cdv A outer s H E hr =>
    (pssd_one (psd_ret (pd_frz (pld_lc [("at", 2)] rfl sc__law_unlike.nd (pid_rng1 T.z_range (pad_cons (pd_callB T.z_len cd_len (pad_cons (pd_var 0) pad_nil)) pad_nil)) (blkOk_by (N := ["one", "other", "at"]) (sc := defScope s__law_unlike) (by decide +kernel)) (fun _ _ _ _ _ => (pgd_name sc__law_unlike.nd)) (fun _ _ _ _ _ => (ptsd_one (ptd_cmp (od_ne (hu65 hr)) (pd_ix (pd_var 0) (pd_var 2)) (pd_ix (pd_var 1) (pd_var 2))))) (fun _ _ _ _ _ => (pd_op od_add (pd_var 2) pd_int))))))
def b__law_is_as : SM := (seqS (asgS (callD t__law_at 2 (consA (varE 1) (consA (varE 2) nilA))) (bTup (bCons (bName 3) (bCons (bName 4) bNil))))
    (seqS (setS 5 (frzE (compE (itQ (callD t__law_all 1 (consA (bin2 ixD (varE 1) (conE (.int 0))) nilA))) [9] (bName 9) (andT (tst (bin2 (inA true) (varE 9) (varE 4))) (tst (bin2 (inA true) (varE 9) (varE 3)))) (varE 9))))
    (seqS (setS 6 (frzE (compE (itR2 (consA (conE (.int 1)) (consA (bin2 addA (bin2 ixD (varE 1) (conE (.int 0))) (conE (.int 1))) nilA))) [10] (bName 10) (andT (tst (bin2 neD (varE 3) (frzE (lstE nilA)))) (tst (bin2 (inA false) (callD t__law_turn 2 (consA (bin2 ixD (varE 3) (un1 negI (conE (.int 1)))) (consA (varE 10) nilA))) (varE 5)))) (varE 10))))
    (seqS (setS 7 (frzE (lstE (consA (meth0D "Desk" "words" t_Desk_words (varE 0)) (consA (meth0D "Desk" "barred" t_Desk_barred (varE 0)) (consA (meth0D "Desk" "able" t_Desk_able (varE 0)) (consA (meth0D "Desk" "left" t_Desk_left (varE 0)) (consA (meth0D "Desk" "log" t_Desk_log (varE 0)) nilA))))))))
    (seqS (ifS (notT (tst (callD (t__law_same 8) 2 (consA (varE 7) (consA (frzE (lstE (consA (callM tupleD (consA (varE 3) nilA)) (consA (callM tupleD (consA (frzE (callLM (sortA 2) (consA (varE 4) nilA))) nilA)) (consA (callM tupleD (consA (varE 6) nilA)) (consA (callM tupleD (consA (varE 5) nilA)) (consA (callM tupleD (consA (varE 2) nilA)) nilA))))))) nilA))))) (retS (conE (.bl false))) nxS)
    (seqS (setS 8 (andV (bin2 gtI (callM lenD (consA (varE 3) nilA)) (conE (.int 2))) (bin2 eqD (callM lenD (consA (callD t__law_unlike 2 (consA (bin2 ixD (varE 3) (conE (.int 0))) (consA (bin2 ixD (varE 3) (un1 negI (conE (.int 1)))) nilA))) nilA)) (conE (.int 1)))))
    (retS (callD (t__law_same 8) 2 (consA (frzE (lstE (consA (meth0D "Desk" "is_whole" t_Desk_is_whole (varE 0)) (consA (meth0D "Desk" "is_round" t_Desk_is_round (varE 0)) nilA)))) (consA (frzE (lstE (consA (andV (bin2 neD (varE 3) (frzE (lstE nilA))) (bin2 eqD (varE 5) (frzE (lstE nilA)))) (consA (varE 8) nilA)))) nilA))))))))))
def t__law_is_as : FM := fnD 11 b__law_is_as
theorem ok__law_is_as (T : TX K mg) : FnOk P w K mg base (L2.CX P w) 10 T.d__law_is_as.f T.d__law_is_as.fd ["desk", "cube", "deeds"] (spD ⟨K, mg, []⟩ 3 t__law_is_as) := fun_ok T.d__law_is_as.F sc__law_is_as fun cdv A outer s H E hr =>
    (pssd_cons (psd_asg (pd_call (ok__law_at T) (hr.mono (by decide)) T.d__law_at.g T.d__law_at.F.kp T.d__law_at.b (takes_of rfl rfl rfl rfl) (pad_cons (pd_var 1) (pad_cons (pd_var 2) pad_nil))) (pgd_tup rfl (pgsd_cons (pgd_name sc__law_is_as.nd) (pgsd_cons (pgd_name sc__law_is_as.nd) pgsd_nil)) (lenB_cons (lenB_cons lenB_nil))))
    (pssd_cons (psd_set sc__law_is_as.nd (pd_frz (pld_lc [("word", 9)] rfl sc__law_is_as.nd (pid_sq (pd_call (ok__law_all T) (hr.mono (by decide)) T.d__law_all.g T.d__law_all.F.kp T.d__law_all.b (takes_of rfl rfl rfl rfl) (pad_cons (pd_ix (pd_var 1) pd_int) pad_nil))) (blkOk_by (N := ["desk", "cube", "deeds", "line", "bars", "left", "able", "told", "ends", "word", "place"]) (sc := defScope s__law_is_as) (by decide +kernel)) (fun _ _ _ _ _ => (pgd_name sc__law_is_as.nd)) (fun _ _ _ _ _ => (ptsd_one (PWD.pt (pwd_and (ptd_cmp (od_notIn (hu65 hr)) (pd_var 9) (pd_var 4)) (pwd_and1 (ptd_cmp (od_notIn (hu65 hr)) (pd_var 9) (pd_var 3))))))) (fun _ _ _ _ _ => (pd_var 9)))))
    (pssd_cons (psd_setLc (i := 6) frzE (fun _ _ _ q => QL.frz q) [("place", 10)] rfl sc__law_is_as.nd (pid_rng2 T.z_range (pad_cons pd_int (pad_cons (pd_op od_add (pd_ix (pd_var 1) pd_int) pd_int) pad_nil))) (blkOk_by (N := ["desk", "cube", "deeds", "line", "bars", "left", "able", "told", "ends", "word", "place"]) (sc := defScope s__law_is_as) (by decide +kernel)) (fun _ _ _ _ _ => (pgd_name sc__law_is_as.nd)) (fun _ _ _ _ _ => (ptsd_one (PWD.pt (pwd_and (ptd_cmp (od_ne (hu65 hr)) (pd_var 3) (pd_frz (pld_lst pad_nil))) (pwd_and1 (ptd_cmp (od_in (hu65 hr)) (pd_call (ok__law_turn T) (hr.mono (by decide)) T.d__law_turn.g T.d__law_turn.F.kp T.d__law_turn.b takes0 (pad_cons (pd_ix (pd_var 3) (pd_neg pd_int)) (pad_cons (pd_var 10) pad_nil))) (pd_var 5))))))) (fun _ _ _ _ _ => (pd_var 10)))
    (pssd_cons (psd_set sc__law_is_as.nd (pd_frz (pld_lst (pad_cons (pd_meth0 T.c_Desk.g (pd_var 0) T.c_Desk.cl T.m_Desk_words.m (ok_Desk_words T) (hr.mono (by decide)) T.m_Desk_words.b (takes_of rfl rfl rfl rfl)) (pad_cons (pd_meth0 T.c_Desk.g (pd_var 0) T.c_Desk.cl T.m_Desk_barred.m (ok_Desk_barred T) (hr.mono (by decide)) T.m_Desk_barred.b (takes_of rfl rfl rfl rfl)) (pad_cons (pd_meth0 T.c_Desk.g (pd_var 0) T.c_Desk.cl T.m_Desk_able.m (ok_Desk_able T) (hr.mono (by decide)) T.m_Desk_able.b (takes_of rfl rfl rfl rfl)) (pad_cons (pd_meth0 T.c_Desk.g (pd_var 0) T.c_Desk.cl T.m_Desk_left.m (ok_Desk_left T) (hr.mono (by decide)) T.m_Desk_left.b (takes_of rfl rfl rfl rfl)) (pad_cons (pd_meth0 T.c_Desk.g (pd_var 0) T.c_Desk.cl T.m_Desk_log.m (ok_Desk_log T) (hr.mono (by decide)) T.m_Desk_log.b (takes_of rfl rfl rfl rfl)) pad_nil))))))))
    (pssd_cons (psd_if (ptd_not (ptd_val (pd_call (ok__law_same T 8) (hr.mono (by decide)) T.d__law_same.g T.d__law_same.F.kp T.d__law_same.b (takes_of rfl rfl rfl rfl) (pad_cons (pd_var 7) (pad_cons (pd_frz (pld_lst (pad_cons (pd_callTy T.z_tuple cd_tuple (pad_cons (pd_var 3) pad_nil)) (pad_cons (pd_callTy T.z_tuple cd_tuple (pad_cons (pd_frz (pld_callB T.z_sorted (cd_sort 2 rfl) (pad_cons (pd_var 4) pad_nil))) pad_nil)) (pad_cons (pd_callTy T.z_tuple cd_tuple (pad_cons (pd_var 6) pad_nil)) (pad_cons (pd_callTy T.z_tuple cd_tuple (pad_cons (pd_var 5) pad_nil)) (pad_cons (pd_callTy T.z_tuple cd_tuple (pad_cons (pd_var 2) pad_nil)) pad_nil))))))) pad_nil))))) (pssd_one (psd_ret pd_bl)) pssd_nil)
    (pssd_cons (psd_set sc__law_is_as.nd (pd_and (pd_cmp od_gtI (pd_callB T.z_len cd_len (pad_cons (pd_var 3) pad_nil)) pd_int) (pd_one (pd_cmp (od_eq (hu65 hr)) (pd_callB T.z_len cd_len (pad_cons (pd_call (ok__law_unlike T) (hr.mono (by decide)) T.d__law_unlike.g T.d__law_unlike.F.kp T.d__law_unlike.b (takes_of rfl rfl rfl rfl) (pad_cons (pd_ix (pd_var 3) pd_int) (pad_cons (pd_ix (pd_var 3) (pd_neg pd_int)) pad_nil))) pad_nil)) pd_int))))
    (pssd_one (psd_ret (pd_call (ok__law_same T 8) (hr.mono (by decide)) T.d__law_same.g T.d__law_same.F.kp T.d__law_same.b (takes_of rfl rfl rfl rfl) (pad_cons (pd_frz (pld_lst (pad_cons (pd_meth0 T.c_Desk.g (pd_var 0) T.c_Desk.cl T.m_Desk_is_whole.m (ok_Desk_is_whole T) (hr.mono (by decide)) T.m_Desk_is_whole.b (takes_of rfl rfl rfl rfl)) (pad_cons (pd_meth0 T.c_Desk.g (pd_var 0) T.c_Desk.cl T.m_Desk_is_round.m (ok_Desk_is_round T) (hr.mono (by decide)) T.m_Desk_is_round.b (takes_of rfl rfl rfl rfl)) pad_nil)))) (pad_cons (pd_frz (pld_lst (pad_cons (pd_and (pd_cmp (od_ne (hu65 hr)) (pd_var 3) (pd_frz (pld_lst pad_nil))) (pd_one (pd_cmp (od_eq (hu65 hr)) (pd_var 5) (pd_frz (pld_lst pad_nil))))) (pad_cons (pd_var 8) pad_nil)))) pad_nil)))))))))))
def b__law_some : SM := (retS (bin2 ixD (varE 1) (callD t__law_roll 2 (consA (varE 0) (consA (callM lenD (consA (varE 1) nilA)) nilA)))))
def t__law_some : FM := fnD 2 b__law_some
theorem ok__law_some (T : TX K mg) : FnOk P w K mg base (L2.CX P w) 2 T.d__law_some.f T.d__law_some.fd ["cup", "things"] (spD ⟨K, mg, []⟩ 2 t__law_some) := fun_ok T.d__law_some.F sc__law_some fun cdv A outer s H E hr =>
    (pssd_one (psd_ret (pd_ix (pd_var 1) (pd_call (ok__law_roll T) (hr.mono (by decide)) T.d__law_roll.g T.d__law_roll.F.kp T.d__law_roll.b (takes_of rfl rfl rfl rfl) (pad_cons (pd_var 0) (pad_cons (pd_callB T.z_len cd_len (pad_cons (pd_var 1) pad_nil)) pad_nil))))))
def b__law_drawn : SM := (seqS (asgS (callD t__law_at 2 (consA (varE 1) (consA (varE 2) nilA))) (bTup (bCons (bName 3) (bCons (bName 4) bNil))))
    (seqS (setS 5 (frzE (compE (itQ (callD t__law_all 1 (consA (bin2 ixD (varE 1) (conE (.int 0))) nilA))) [8] (bName 8) (andT (tst (bin2 (inA true) (varE 8) (varE 4))) (tst (bin2 (inA true) (varE 8) (varE 3)))) (varE 8))))
    (seqS (setS 6 (frzE (compE (itR2 (consA (conE (.int 1)) (consA (bin2 addA (bin2 ixD (varE 1) (conE (.int 0))) (conE (.int 1))) nilA))) [9] (bName 9) (andT (tst (bin2 neD (varE 3) (frzE (lstE nilA)))) (tst (bin2 (inA false) (callD t__law_turn 2 (consA (bin2 ixD (varE 3) (un1 negI (conE (.int 1)))) (consA (varE 9) nilA))) (varE 5)))) (tupE (consA (conE (.str [116, 117, 114, 110])) (consA (varE 9) nilA))))))
    (seqS (setS 7 (newE (addLE (bin2 addA (varE 6) (varE 6)) (ifE (andT (tst (bin2 eqD (varE 3) (frzE (lstE nilA)))) (tst (bin2 neD (varE 5) (frzE (lstE nilA))))) (bin2 mulA (frzE (lstE (consA (tupE (consA (conE (.str [98, 101, 103, 105, 110])) (consA (callD t__law_some 2 (consA (varE 0) (consA (varE 5) nilA))) nilA))) nilA))) (conE (.int 4))) (frzE (lstE nilA))))))
    (seqS (ifS (andT (tst (bin2 neD (varE 5) (frzE (lstE nilA)))) (tst (bin2 eqD (callD t__law_roll 2 (consA (varE 0) (consA (conE (.int 4)) nilA))) (conE (.int 0))))) (dropS (mthD appD (varE 7) (consA (tupE (consA (conE (.str [98, 97, 114])) (consA (callD t__law_some 2 (consA (varE 0) (consA (varE 5) nilA))) nilA))) nilA))) nxS)
    (seqS (ifS (andT (tst (bin2 neD (varE 4) (frzE (lstE nilA)))) (tst (bin2 eqD (callD t__law_roll 2 (consA (varE 0) (consA (conE (.int 3)) nilA))) (conE (.int 0))))) (dropS (mthD appD (varE 7) (consA (tupE (consA (conE (.str [102, 114, 101, 101])) (consA (callD t__law_some 2 (consA (varE 0) (consA (varE 4) nilA))) nilA))) nilA))) nxS)
    (retS (ifE (tst (bin2 neD (varE 7) (frzE (lstE nilA)))) (callD t__law_some 2 (consA (varE 0) (consA (varE 7) nilA))) (conE .non)))))))))
def t__law_drawn : FM := fnD 10 b__law_drawn
theorem ok__law_drawn (T : TX K mg) : FnOk P w K mg base (L2.CX P w) 3 T.d__law_drawn.f T.d__law_drawn.fd ["cup", "cube", "deeds"] (spD ⟨K, mg, []⟩ 3 t__law_drawn) := fun_ok T.d__law_drawn.F sc__law_drawn fun cdv A outer s H E hr =>
    (pssd_cons (psd_asg (pd_call (ok__law_at T) (hr.mono (by decide)) T.d__law_at.g T.d__law_at.F.kp T.d__law_at.b (takes_of rfl rfl rfl rfl) (pad_cons (pd_var 1) (pad_cons (pd_var 2) pad_nil))) (pgd_tup rfl (pgsd_cons (pgd_name sc__law_drawn.nd) (pgsd_cons (pgd_name sc__law_drawn.nd) pgsd_nil)) (lenB_cons (lenB_cons lenB_nil))))
    (pssd_cons (psd_set sc__law_drawn.nd (pd_frz (pld_lc [("word", 8)] rfl sc__law_drawn.nd (pid_sq (pd_call (ok__law_all T) (hr.mono (by decide)) T.d__law_all.g T.d__law_all.F.kp T.d__law_all.b (takes_of rfl rfl rfl rfl) (pad_cons (pd_ix (pd_var 1) pd_int) pad_nil))) (blkOk_by (N := ["cup", "cube", "deeds", "line", "bars", "left", "able", "some", "word", "place"]) (sc := defScope s__law_drawn) (by decide +kernel)) (fun _ _ _ _ _ => (pgd_name sc__law_drawn.nd)) (fun _ _ _ _ _ => (ptsd_one (PWD.pt (pwd_and (ptd_cmp (od_notIn (hu65 hr)) (pd_var 8) (pd_var 4)) (pwd_and1 (ptd_cmp (od_notIn (hu65 hr)) (pd_var 8) (pd_var 3))))))) (fun _ _ _ _ _ => (pd_var 8)))))
    (pssd_cons (psd_setLc (i := 6) frzE (fun _ _ _ q => QL.frz q) [("place", 9)] rfl sc__law_drawn.nd (pid_rng2 T.z_range (pad_cons pd_int (pad_cons (pd_op od_add (pd_ix (pd_var 1) pd_int) pd_int) pad_nil))) (blkOk_by (N := ["cup", "cube", "deeds", "line", "bars", "left", "able", "some", "word", "place"]) (sc := defScope s__law_drawn) (by decide +kernel)) (fun _ _ _ _ _ => (pgd_name sc__law_drawn.nd)) (fun _ _ _ _ _ => (ptsd_one (PWD.pt (pwd_and (ptd_cmp (od_ne (hu65 hr)) (pd_var 3) (pd_frz (pld_lst pad_nil))) (pwd_and1 (ptd_cmp (od_in (hu65 hr)) (pd_call (ok__law_turn T) (hr.mono (by decide)) T.d__law_turn.g T.d__law_turn.F.kp T.d__law_turn.b takes0 (pad_cons (pd_ix (pd_var 3) (pd_neg pd_int)) (pad_cons (pd_var 9) pad_nil))) (pd_var 5))))))) (fun _ _ _ _ _ => (pd_tup (pad_cons (pd_str [116, 117, 114, 110]) (pad_cons (pd_var 9) pad_nil)))))
    (pssd_cons (psd_set sc__law_drawn.nd (pd_new (pld_add (pd_op od_add (pd_var 6) (pd_var 6)) (pd_if (PWD.pt (pwd_and (ptd_cmp (od_eq (hu65 hr)) (pd_var 3) (pd_frz (pld_lst pad_nil))) (pwd_and1 (ptd_cmp (od_ne (hu65 hr)) (pd_var 5) (pd_frz (pld_lst pad_nil)))))) (pd_op od_mul (pd_frz (pld_lst (pad_cons (pd_tup (pad_cons (pd_str [98, 101, 103, 105, 110]) (pad_cons (pd_call (ok__law_some T) (hr.mono (by decide)) T.d__law_some.g T.d__law_some.F.kp T.d__law_some.b (takes_of rfl rfl rfl rfl) (pad_cons (pd_var 0) (pad_cons (pd_var 5) pad_nil))) pad_nil))) pad_nil))) pd_int) (pd_frz (pld_lst pad_nil))))))
    (pssd_cons (psd_if (PWD.pt (pwd_and (ptd_cmp (od_ne (hu65 hr)) (pd_var 5) (pd_frz (pld_lst pad_nil))) (pwd_and1 (ptd_cmp (od_eq (hu65 hr)) (pd_call (ok__law_roll T) (hr.mono (by decide)) T.d__law_roll.g T.d__law_roll.F.kp T.d__law_roll.b (takes_of rfl rfl rfl rfl) (pad_cons (pd_var 0) (pad_cons pd_int pad_nil))) pd_int)))) (pssd_one (psd_expr (pd_mth PySem.F.slot_list_append PySem.F.type_list_append md_app (pd_var 7) (pad_cons (pd_tup (pad_cons (pd_str [98, 97, 114]) (pad_cons (pd_call (ok__law_some T) (hr.mono (by decide)) T.d__law_some.g T.d__law_some.F.kp T.d__law_some.b (takes_of rfl rfl rfl rfl) (pad_cons (pd_var 0) (pad_cons (pd_var 5) pad_nil))) pad_nil))) pad_nil)))) pssd_nil)
    (pssd_cons (psd_if (PWD.pt (pwd_and (ptd_cmp (od_ne (hu65 hr)) (pd_var 4) (pd_frz (pld_lst pad_nil))) (pwd_and1 (ptd_cmp (od_eq (hu65 hr)) (pd_call (ok__law_roll T) (hr.mono (by decide)) T.d__law_roll.g T.d__law_roll.F.kp T.d__law_roll.b (takes_of rfl rfl rfl rfl) (pad_cons (pd_var 0) (pad_cons pd_int pad_nil))) pd_int)))) (pssd_one (psd_expr (pd_mth PySem.F.slot_list_append PySem.F.type_list_append md_app (pd_var 7) (pad_cons (pd_tup (pad_cons (pd_str [102, 114, 101, 101]) (pad_cons (pd_call (ok__law_some T) (hr.mono (by decide)) T.d__law_some.g T.d__law_some.F.kp T.d__law_some.b (takes_of rfl rfl rfl rfl) (pad_cons (pd_var 0) (pad_cons (pd_var 4) pad_nil))) pad_nil))) pad_nil)))) pssd_nil)
    (pssd_one (psd_ret (pd_if (ptd_cmp (od_ne (hu65 hr)) (pd_var 7) (pd_frz (pld_lst pad_nil))) (pd_call (ok__law_some T) (hr.mono (by decide)) T.d__law_some.g T.d__law_some.F.kp T.d__law_some.b (takes_of rfl rfl rfl rfl) (pad_cons (pd_var 0) (pad_cons (pd_var 7) pad_nil))) pd_non)))))))))
def b_Desk_redo : SM := (seqS (ifS (tst (bin2 eqD (fldD "Desk" "taken" (varE 0)) (frzE (lstE nilA)))) (fun _ _ => .bad) nxS)
    (seqS (dropS (methD "Desk" "do" t_Desk_do 2 (varE 0) (consA (bin2 ixD (fldD "Desk" "taken" (varE 0)) (un1 negI (conE (.int 1)))) nilA)))
    (seqS (dropS (mthD appD (fldD "Desk" "deeds" (varE 0)) (consA (mth0D popD (fldD "Desk" "taken" (varE 0))) nilA)))
    (retS (bin2 ixD (fldD "Desk" "deeds" (varE 0)) (un1 negI (conE (.int 1))))))))
def t_Desk_redo : FM := fnD 1 b_Desk_redo
theorem ok_Desk_redo (T : TX K mg) : FnOk P w K mg base (L2.CX P w) 3 T.m_Desk_redo.f T.m_Desk_redo.fd ["self"] (spD ⟨K, mg, []⟩ 1 t_Desk_redo) := fun_ok T.m_Desk_redo.F sc_Desk_redo fun cdv A outer s H E hr =>
    (pssd_cons (psd_if (ptd_cmp (od_eq (hu65 hr)) (pd_fld T.c_Desk.g T.c_Desk.cl T.n_Desk_taken (pd_var 0)) (pd_frz (pld_lst pad_nil))) pssd_never pssd_nil)
    (pssd_cons (psd_expr (pd_meth T.c_Desk.g (pd_var 0) T.c_Desk.cl T.m_Desk_do.m (ok_Desk_do T) (hr.mono (by decide)) T.m_Desk_do.b (takes_of rfl rfl rfl rfl) (pad_cons (pd_ix (pd_fld T.c_Desk.g T.c_Desk.cl T.n_Desk_taken (pd_var 0)) (pd_neg pd_int)) pad_nil)))
    (pssd_cons (psd_expr (pd_mth PySem.F.slot_list_append PySem.F.type_list_append md_app (pd_fld T.c_Desk.g T.c_Desk.cl T.n_Desk_deeds (pd_var 0)) (pad_cons (pd_mth0 PySem.F.slot_list_pop PySem.F.type_list_pop md_pop (pd_fld T.c_Desk.g T.c_Desk.cl T.n_Desk_taken (pd_var 0))) pad_nil)))
    (pssd_one (psd_ret (pd_ix (pd_fld T.c_Desk.g T.c_Desk.cl T.n_Desk_deeds (pd_var 0)) (pd_neg pd_int)))))))
def b_Desk_free : SM := (seqS (dropS (methD "Desk" "need_word" t_Desk_need_word 2 (varE 0) (consA (varE 1) nilA)))
    (dropS (methD "Desk" "done" t_Desk_done 2 (varE 0) (consA (tupE (consA (conE (.str [102, 114, 101, 101])) (consA (varE 1) nilA))) nilA))))
def t_Desk_free : FM := fnD 2 b_Desk_free
theorem ok_Desk_free (T : TX K mg) : FnOk P w K mg base (L2.CX P w) 4 T.m_Desk_free.f T.m_Desk_free.fd ["self", "word"] (spD ⟨K, mg, []⟩ 2 t_Desk_free) := fun_ok T.m_Desk_free.F sc_Desk_free fun cdv A outer s H E hr =>
    (pssd_cons (psd_expr (pd_meth T.c_Desk.g (pd_var 0) T.c_Desk.cl T.m_Desk_need_word.m (ok_Desk_need_word T) (hr.mono (by decide)) T.m_Desk_need_word.b (takes_of rfl rfl rfl rfl) (pad_cons (pd_var 1) pad_nil)))
    (pssd_one (psd_expr (pd_meth T.c_Desk.g (pd_var 0) T.c_Desk.cl T.m_Desk_done.m (ok_Desk_done T) (hr.mono (by decide)) T.m_Desk_done.b (takes_of rfl rfl rfl rfl) (pad_cons (pd_tup (pad_cons (pd_str [102, 114, 101, 101]) (pad_cons (pd_var 1) pad_nil))) pad_nil)))))
def b__law_do : SM := (seqS (ifS (tst (bin2 eqD (bin2 ixD (varE 1) (conE (.int 0))) (conE (.str [116, 117, 114, 110])))) (retS (methD "Desk" "turn" t_Desk_turn 2 (varE 0) (consA (bin2 ixD (varE 1) (conE (.int 1))) nilA))) nxS)
    (seqS (ifS (tst (bin2 eqD (bin2 ixD (varE 1) (conE (.int 0))) (conE (.str [98, 101, 103, 105, 110])))) (retS (methD "Desk" "begin" t_Desk_begin 2 (varE 0) (consA (bin2 ixD (varE 1) (conE (.int 1))) nilA))) nxS)
    (retS (ifE (tst (bin2 eqD (bin2 ixD (varE 1) (conE (.int 0))) (conE (.str [98, 97, 114])))) (methD "Desk" "bar" t_Desk_bar 2 (varE 0) (consA (bin2 ixD (varE 1) (conE (.int 1))) nilA)) (methD "Desk" "free" t_Desk_free 2 (varE 0) (consA (bin2 ixD (varE 1) (conE (.int 1))) nilA))))))
def t__law_do : FM := fnD 2 b__law_do
theorem ok__law_do (T : TX K mg) : FnOk P w K mg base (L2.CX P w) 5 T.d__law_do.f T.d__law_do.fd ["desk", "deed"] (spD ⟨K, mg, []⟩ 2 t__law_do) := fun_ok T.d__law_do.F sc__law_do fun cdv A outer s H E hr =>
    (pssd_cons (psd_if (ptd_cmp (od_eq (hu65 hr)) (pd_ix (pd_var 1) pd_int) (pd_str [116, 117, 114, 110])) (pssd_one (psd_ret (pd_meth T.c_Desk.g (pd_var 0) T.c_Desk.cl T.m_Desk_turn.m (ok_Desk_turn T) (hr.mono (by decide)) T.m_Desk_turn.b (takes_of rfl rfl rfl rfl) (pad_cons (pd_ix (pd_var 1) pd_int) pad_nil)))) pssd_nil)
    (pssd_cons (psd_if (ptd_cmp (od_eq (hu65 hr)) (pd_ix (pd_var 1) pd_int) (pd_str [98, 101, 103, 105, 110])) (pssd_one (psd_ret (pd_meth T.c_Desk.g (pd_var 0) T.c_Desk.cl T.m_Desk_begin.m (ok_Desk_begin T) (hr.mono (by decide)) T.m_Desk_begin.b (takes_of rfl rfl rfl rfl) (pad_cons (pd_ix (pd_var 1) pd_int) pad_nil)))) pssd_nil)
    (pssd_one (psd_ret (pd_if (ptd_cmp (od_eq (hu65 hr)) (pd_ix (pd_var 1) pd_int) (pd_str [98, 97, 114])) (pd_meth T.c_Desk.g (pd_var 0) T.c_Desk.cl T.m_Desk_bar.m (ok_Desk_bar T) (hr.mono (by decide)) T.m_Desk_bar.b (takes_of rfl rfl rfl rfl) (pad_cons (pd_ix (pd_var 1) pd_int) pad_nil)) (pd_meth T.c_Desk.g (pd_var 0) T.c_Desk.cl T.m_Desk_free.m (ok_Desk_free T) (hr.mono (by decide)) T.m_Desk_free.b (takes_of rfl rfl rfl rfl) (pad_cons (pd_ix (pd_var 1) pd_int) pad_nil)))))))
def b_law : SM := (seqS (setS 1 (callD t__law_cup 1 (consA (varE 0) nilA)))
    (seqS (ifS (notT (tst (call0D t__law_rows_right))) (retS (conE (.bl false))) nxS)
    (seqS (forS (itR1 (consA (conE (.int 2)) nilA)) (bName 2) (seqS (setS 3 (callD t__law_cube 2 (consA (varE 1) (consA (bin2 addA (conE (.int 1)) (callD t__law_roll 2 (consA (varE 1) (consA (conE (.int 5)) nilA)))) nilA))))
    (seqS (par3S 4 5 6 (consA (makeD "Desk" t_Desk___init__ 2 (consA (varE 3) nilA)) (consA (newE (lstE nilA)) (consA (newE (lstE nilA)) nilA))))
    (seqS (ifS (notT (tst (callD t__law_is_as 3 (consA (varE 4) (consA (varE 3) (consA (frzE (lstE nilA)) nilA)))))) (retS (conE (.bl false))) nxS)
    (forS (itR1 (consA (callD t__law_some 2 (consA (varE 1) (consA (frzE (lstE (consA (conE (.int 6)) (consA (conE (.int 15)) (consA (conE (.int 30)) nilA))))) nilA))) nilA)) (bName 7) (seqS (parS 8 9 (consA (callD t__law_roll 2 (consA (varE 1) (consA (conE (.int 10)) nilA))) (consA (callD t__law_drawn 3 (consA (varE 1) (consA (varE 3) (consA (varE 5) nilA)))) nilA)))
    (seqS (ifS (andT (tst (bin2 ltA (varE 8) (conE (.int 2)))) (tst (bin2 neD (varE 5) (frzE (lstE nilA))))) (seqS (setS 10 (mth0D popD (varE 5)))
    (seqS (dropS (mthD appD (varE 6) (consA (varE 10) nilA)))
    (ifS (notT (tst (callD (t__law_same 8) 2 (consA (meth0D "Desk" "undo" t_Desk_undo (varE 4)) (consA (varE 10) nilA))))) (retS (conE (.bl false))) nxS))) (ifS (andT (tst (bin2 ltA (varE 8) (conE (.int 4)))) (tst (bin2 neD (varE 6) (frzE (lstE nilA))))) (seqS (setS 10 (mth0D popD (varE 6)))
    (seqS (dropS (mthD appD (varE 5) (consA (varE 10) nilA)))
    (ifS (notT (tst (callD (t__law_same 8) 2 (consA (meth0D "Desk" "redo" t_Desk_redo (varE 4)) (consA (varE 10) nilA))))) (retS (conE (.bl false))) nxS))) (ifS (tst (bin2 (isN true) (varE 9) (conE .non))) (seqS (parS 5 6 (consA (newE (addLE (varE 5) (frzE (lstE (consA (varE 9) nilA))))) (consA (newE (lstE nilA)) nilA)))
    (seqS (setS 11 (ifE (tst (bin2 eqD (bin2 ixD (varE 9) (conE (.int 0))) (conE (.str [116, 117, 114, 110])))) (bin2 ixD (bin2 ixD (callD t__law_at 2 (consA (varE 3) (consA (varE 5) nilA))) (conE (.int 0))) (un1 negI (conE (.int 1)))) (conE .non)))
    (ifS (notT (tst (callD (t__law_same 8) 2 (consA (callD t__law_do 2 (consA (varE 4) (consA (varE 9) nilA))) (consA (varE 11) nilA))))) (retS (conE (.bl false))) nxS))) nxS)))
    (ifS (notT (tst (callD t__law_is_as 3 (consA (varE 4) (consA (varE 3) (consA (varE 5) nilA)))))) (retS (conE (.bl false))) nxS))))))))
    (retS (conE (.bl true))))))
def t_law : FM := fnD 12 b_law
theorem ok_law (T : TX K mg) : FnOk P w K mg base (L2.CX P w) 11 T.d_law.f T.d_law.fd ["script"] (spD ⟨K, mg, []⟩ 1 t_law) := fun_ok T.d_law.F sc_law fun cdv A outer s H E hr =>
    (pssd_cons (psd_set sc_law.nd (pd_call (ok__law_cup T) (hr.mono (by decide)) T.d__law_cup.g T.d__law_cup.F.kp T.d__law_cup.b (takes_of rfl rfl rfl rfl) (pad_cons (pd_var 0) pad_nil)))
    (pssd_cons (psd_if (ptd_not (ptd_val (pd_call0 (ok__law_rows_right T) (hr.mono (by decide)) T.d__law_rows_right.g T.d__law_rows_right.F.kp T.d__law_rows_right.b))) (pssd_one (psd_ret pd_bl)) pssd_nil)
    (pssd_cons (psd_for (L2.passes_of rfl) rfl (pid_rng1 T.z_range (pad_cons pd_int pad_nil)) (pgd_name sc_law.nd) (pssd_cons (psd_set sc_law.nd (pd_call (ok__law_cube T) (hr.mono (by decide)) T.d__law_cube.g T.d__law_cube.F.kp T.d__law_cube.b (takes_of rfl rfl rfl rfl) (pad_cons (pd_var 1) (pad_cons (pd_op od_add pd_int (pd_call (ok__law_roll T) (hr.mono (by decide)) T.d__law_roll.g T.d__law_roll.F.kp T.d__law_roll.b (takes_of rfl rfl rfl rfl) (pad_cons (pd_var 1) (pad_cons pd_int pad_nil)))) pad_nil))))
    (pssd_cons (psd_par3 rfl sc_law.nd (pad_cons (pd_make T.mk_Desk (ok_Desk___init__ T) (hr.mono (by decide)) T.c_Desk.g T.m_Desk___init__.b (pad_cons (pd_var 3) pad_nil)) (pad_cons (pd_new (pld_lst pad_nil)) (pad_cons (pd_new (pld_lst pad_nil)) pad_nil))))
    (pssd_cons (psd_if (ptd_not (ptd_val (pd_call (ok__law_is_as T) (hr.mono (by decide)) T.d__law_is_as.g T.d__law_is_as.F.kp T.d__law_is_as.b (takes_of rfl rfl rfl rfl) (pad_cons (pd_var 4) (pad_cons (pd_var 3) (pad_cons (pd_frz (pld_lst pad_nil)) pad_nil)))))) (pssd_one (psd_ret pd_bl)) pssd_nil)
    (pssd_one (psd_for (L2.passes_of rfl) rfl (pid_rng1 T.z_range (pad_cons (pd_call (ok__law_some T) (hr.mono (by decide)) T.d__law_some.g T.d__law_some.F.kp T.d__law_some.b (takes_of rfl rfl rfl rfl) (pad_cons (pd_var 1) (pad_cons (pd_frz (pld_lst (pad_cons pd_int (pad_cons pd_int (pad_cons pd_int pad_nil))))) pad_nil))) pad_nil)) (pgd_name sc_law.nd) (pssd_cons (psd_par rfl sc_law.nd (pad_cons (pd_call (ok__law_roll T) (hr.mono (by decide)) T.d__law_roll.g T.d__law_roll.F.kp T.d__law_roll.b (takes_of rfl rfl rfl rfl) (pad_cons (pd_var 1) (pad_cons pd_int pad_nil))) (pad_cons (pd_call (ok__law_drawn T) (hr.mono (by decide)) T.d__law_drawn.g T.d__law_drawn.F.kp T.d__law_drawn.b (takes_of rfl rfl rfl rfl) (pad_cons (pd_var 1) (pad_cons (pd_var 3) (pad_cons (pd_var 5) pad_nil)))) pad_nil)))
    (pssd_cons (psd_if (PWD.pt (pwd_and (ptd_cmp (od_lt (hu65 hr)) (pd_var 8) pd_int) (pwd_and1 (ptd_cmp (od_ne (hu65 hr)) (pd_var 5) (pd_frz (pld_lst pad_nil)))))) (pssd_cons (psd_set sc_law.nd (pd_mth0 PySem.F.slot_list_pop PySem.F.type_list_pop md_pop (pd_var 5)))
    (pssd_cons (psd_expr (pd_mth PySem.F.slot_list_append PySem.F.type_list_append md_app (pd_var 6) (pad_cons (pd_var 10) pad_nil)))
    (pssd_one (psd_if (ptd_not (ptd_val (pd_call (ok__law_same T 8) (hr.mono (by decide)) T.d__law_same.g T.d__law_same.F.kp T.d__law_same.b (takes_of rfl rfl rfl rfl) (pad_cons (pd_meth0 T.c_Desk.g (pd_var 4) T.c_Desk.cl T.m_Desk_undo.m (ok_Desk_undo T) (hr.mono (by decide)) T.m_Desk_undo.b (takes_of rfl rfl rfl rfl)) (pad_cons (pd_var 10) pad_nil))))) (pssd_one (psd_ret pd_bl)) pssd_nil)))) (pssd_one (psd_if (PWD.pt (pwd_and (ptd_cmp (od_lt (hu65 hr)) (pd_var 8) pd_int) (pwd_and1 (ptd_cmp (od_ne (hu65 hr)) (pd_var 6) (pd_frz (pld_lst pad_nil)))))) (pssd_cons (psd_set sc_law.nd (pd_mth0 PySem.F.slot_list_pop PySem.F.type_list_pop md_pop (pd_var 6)))
    (pssd_cons (psd_expr (pd_mth PySem.F.slot_list_append PySem.F.type_list_append md_app (pd_var 5) (pad_cons (pd_var 10) pad_nil)))
    (pssd_one (psd_if (ptd_not (ptd_val (pd_call (ok__law_same T 8) (hr.mono (by decide)) T.d__law_same.g T.d__law_same.F.kp T.d__law_same.b (takes_of rfl rfl rfl rfl) (pad_cons (pd_meth0 T.c_Desk.g (pd_var 4) T.c_Desk.cl T.m_Desk_redo.m (ok_Desk_redo T) (hr.mono (by decide)) T.m_Desk_redo.b (takes_of rfl rfl rfl rfl)) (pad_cons (pd_var 10) pad_nil))))) (pssd_one (psd_ret pd_bl)) pssd_nil)))) (pssd_one (psd_if (ptd_cmp od_notN (pd_var 9) pd_non) (pssd_cons (psd_par rfl sc_law.nd (pad_cons (pd_new (pld_add (pd_var 5) (pd_frz (pld_lst (pad_cons (pd_var 9) pad_nil))))) (pad_cons (pd_new (pld_lst pad_nil)) pad_nil)))
    (pssd_cons (psd_set sc_law.nd (pd_if (ptd_cmp (od_eq (hu65 hr)) (pd_ix (pd_var 9) pd_int) (pd_str [116, 117, 114, 110])) (pd_ix (pd_ix (pd_call (ok__law_at T) (hr.mono (by decide)) T.d__law_at.g T.d__law_at.F.kp T.d__law_at.b (takes_of rfl rfl rfl rfl) (pad_cons (pd_var 3) (pad_cons (pd_var 5) pad_nil))) pd_int) (pd_neg pd_int)) pd_non))
    (pssd_one (psd_if (ptd_not (ptd_val (pd_call (ok__law_same T 8) (hr.mono (by decide)) T.d__law_same.g T.d__law_same.F.kp T.d__law_same.b (takes_of rfl rfl rfl rfl) (pad_cons (pd_call (ok__law_do T) (hr.mono (by decide)) T.d__law_do.g T.d__law_do.F.kp T.d__law_do.b (takes_of rfl rfl rfl rfl) (pad_cons (pd_var 4) (pad_cons (pd_var 9) pad_nil))) (pad_cons (pd_var 11) pad_nil))))) (pssd_one (psd_ret pd_bl)) pssd_nil)))) pssd_nil)))))
    (pssd_one (psd_if (ptd_not (ptd_val (pd_call (ok__law_is_as T) (hr.mono (by decide)) T.d__law_is_as.g T.d__law_is_as.F.kp T.d__law_is_as.b (takes_of rfl rfl rfl rfl) (pad_cons (pd_var 4) (pad_cons (pd_var 3) (pad_cons (pd_var 5) pad_nil)))))) (pssd_one (psd_ret pd_bl)) pssd_nil))))))))))
    (pssd_one (psd_ret pd_bl)))))
end
end K63
set_option Elab.async false
set_option linter.all false
set_option maxRecDepth 100000
set_option maxHeartbeats 1000000
set_option autoImplicit false
namespace K63
open L3 PySem L2
/-! ### words -/
def allW : Nat → List (List Int)
  | 0 => [[]]
  | n + 1 => (allW n).flatMap fun w => [w ++ [0], w ++ [1]]
def Wd (n : Nat) (w : List Int) : Prop := w.length = n ∧ ∀ s ∈ w, s = 0 ∨ s = 1
theorem mem_allW : ∀ {n : Nat} {w : List Int}, w ∈ allW n ↔ Wd n w
  | 0, w => by
    constructor
    · intro h
      have : w = [] := by simpa [allW] using h
      subst this
      exact ⟨rfl, fun s h => nomatch h⟩
    · intro h
      have : w = [] := List.eq_nil_of_length_eq_zero h.1
      subst this
      exact List.mem_cons_self
  | n + 1, w => by
    unfold allW
    rw [List.mem_flatMap]
    constructor
    · rintro ⟨v, hv, hw⟩
      obtain ⟨h1, h2⟩ := mem_allW.mp hv
      have h : w = v ++ [0] ∨ w = v ++ [1] := by simpa using hw
      rcases h with e | e <;> subst e <;> refine ⟨by simp [h1], fun s hs => ?_⟩ <;> rcases List.mem_append.mp hs with h | h
      · exact h2 s h
      · exact .inl (by simpa using h)
      · exact h2 s h
      · exact .inr (by simpa using h)
    · rintro ⟨h1, h2⟩
      have hne : w ≠ [] := by intro e; subst e; cases h1
      refine ⟨w.dropLast, mem_allW.mpr ⟨by simp [h1], fun s hs => h2 s ((List.dropLast_sublist w).subset hs)⟩, ?_⟩
      have e := List.dropLast_concat_getLast hne
      have hl := h2 _ (List.getLast_mem hne)
      rcases hl with hl | hl
      · rw [hl] at e; simp [e]
      · rw [hl] at e; simp [e]
def turnW (w : List Int) (p : Nat) : List Int := w.set (p - 1) (1 - w.getD (p - 1) 0)
theorem turn_wd {n p : Nat} {w : List Int} (h : Wd n w) (h1 : 1 ≤ p) (h2 : p ≤ n) : Wd n (turnW w p) := by
  refine ⟨by simp [turnW, h.1], fun s hs => ?_⟩
  unfold turnW at hs
  rcases List.mem_or_eq_of_mem_set hs with h' | h'
  · exact h.2 s h'
  · have hl : p - 1 < w.length := by have := h.1; omega
    rw [List.getD_eq_getElem?_getD, List.getElem?_eq_getElem hl] at h'
    have := h.2 _ (List.getElem_mem hl)
    simp at h'
    rcases this with e | e <;> rw [e] at h' <;> omega
theorem bd_wd {n : Nat} {w : List Int} (h : Wd n w) : TS.Bd 2 w := fun m hm => by
  rcases h.2 m hm with e | e <;> rw [e] <;> decide
theorem all_words_eq {n : Nat} (h1 : 1 ≤ n) (h5 : n ≤ 5) (S : Sto) : t_all_words [.int (n : Nat)] S = .ok (.lst ((allW n).map wordD)) S := by
  obtain e | e | e | e | e : n = 1 ∨ n = 2 ∨ n = 3 ∨ n = 4 ∨ n = 5 := by omega
  all_goals subst e; kernel_rfl
theorem law_all_eq {n : Nat} (h1 : 1 ≤ n) (h5 : n ≤ 5) (S : Sto) : t__law_all [.int (n : Nat)] S = .ok (.lst ((allW n).map wordD)) S := by
  obtain e | e | e | e | e : n = 1 ∨ n = 2 ∨ n = 3 ∨ n = 4 ∨ n = 5 := by omega
  all_goals subst e; kernel_rfl
theorem sIx_nat' (n d k : Nat) : HT.sIx n d (some (k : Int)) = min k n := HT.sIx_nat n d k
theorem turned_at_eq {n p : Nat} {w : List Int} (h : Wd n w) (h5 : n ≤ 5) (h1 : 1 ≤ p) (h2 : p ≤ n) (S : Sto) : t_turned_at [wordD w, .int (p : Nat)] S = .ok (wordD (turnW w p)) S := by
  have hl := h.1
  have e1 : (p : Int) - 1 = ((p - 1 : Nat) : Int) := by omega
  have hi : p - 1 < w.length := by omega
  have e2 : atI (w.map D.int) ((p - 1 : Nat) : Int) = some (.int w[p - 1]) := by
    unfold atI ixN
    rw [if_pos (by omega), if_pos (by simp; omega)]
    simp [hi]
  have e3 : cutD (w.map D.int) none (some ((p - 1 : Nat) : Int)) = (w.take (p - 1)).map .int := by
    unfold cutD
    rw [sIx_nat', HT.sIx_none]
    simp only [List.length_map, List.drop_zero, Nat.sub_zero]
    rw [← List.map_take, Nat.min_eq_left (by omega)]
  have e4 : cutD (w.map D.int) (some (p : Int)) none = (w.drop p).map .int := by
    unfold cutD
    rw [sIx_nat', HT.sIx_none]
    simp only [List.length_map]
    rw [Nat.min_eq_left (by omega), ← List.map_drop, List.take_of_length_le (by simp)]
  have e5 : (w.take (p - 1)).map D.int ++ [D.int (1 - w[p - 1])] ++ (w.drop p).map .int = (turnW w p).map .int := by
    unfold turnW
    rw [List.set_eq_take_append_cons_drop, if_pos hi, List.getD_eq_getElem?_getD, List.getElem?_eq_getElem hi, show p - 1 + 1 = p by omega]
    simp
  simp only [t_turned_at, b_turned_at, wordD, e_fnD, e_startD, e_retS, e_bin2, e_slE, e_varE, e_noPart, e_somePart, e_conE, bind_ok, e_sub, e_slD, e_tupE, e_consA, e_nilA, e_ix2, e_getQ, List.map_cons, List.map_nil, List.cons_append, List.nil_append, List.getElem?_cons_zero, List.getElem?_cons_succ, e1, e2, e3, e4, e_addT, List.length_map, List.length_take, List.length_cons, List.length_nil, List.length_append, List.length_drop]
  rw [if_pos (szS (by omega))]
  simp only [bind_ok, e_addT, List.length_map, List.length_take, List.length_cons, List.length_nil, List.length_append, List.length_drop]
  rw [if_pos (szS (by omega))]
  simp only [bind_ok, e_addT, List.length_map, List.length_take, List.length_cons, List.length_nil, List.length_append, List.length_drop]
  rw [if_pos (szS (by omega))]
  simp only [toS_ok, e5]

theorem law_turn_eq {n p : Nat} {w : List Int} (h : Wd n w) (h5 : n ≤ 5) (h1 : 1 ≤ p) (h2 : p ≤ n) (S : Sto) : t__law_turn [wordD w, .int (p : Nat)] S = .ok (wordD (turnW w p)) S := by
  have hl := h.1
  let g : D → D := fun d => match d with
    | .tup [.int i, .int s] => if i + 1 = (p : Int) then .int (1 - s) else .int s
    | d => d
  have key : compE (itEn (consA (varE 0) nilA)) [2, 3] (bTup (bCons (bName 2) (bCons (bName 3) bNil))) yesT (ifE (tst (bin2 eqD (bin2 addA (varE 2) (conE (.int 1))) (varE 1))) (bin2 subI (conE (.int 1)) (varE 3)) (varE 3)) [some (wordD w), some (.int (p : Nat)), none, none] S = .ok ((turnW w p).map .int) S := by
    rw [comp_same (ds := (enumD (w.map .int)).map .tup) (fun _ => true) g]
    · congr 1
      rw [List.filter_eq_self.mpr (fun _ _ => rfl)]
      apply List.ext_getElem?
      intro j
      rw [List.map_map, List.getElem?_map, enumD_at, List.getElem?_map, List.getElem?_map]
      unfold turnW
      rw [List.getElem?_set]
      cases hj : w[j]? with
      | none =>
        have hj' := List.getElem?_eq_none_iff.mp hj
        rw [if_neg (by omega)]
        rfl
      | some s =>
        have hj' := (List.getElem?_eq_some_iff.mp hj).1
        by_cases e : p - 1 = j
        · rw [if_pos e, if_pos (by omega), List.getD_eq_getElem?_getD, e, hj]
          show some (if ((j : Nat) : Int) + 1 = (p : Int) then D.int (1 - s) else .int s) = _
          rw [if_pos (by omega)]
          rfl
        · rw [if_neg e]
          show some (if ((j : Nat) : Int) + 1 = (p : Int) then D.int (1 - s) else .int s) = _
          rw [if_neg (by omega)]
          rfl
    · rfl
    · rw [List.length_map, enumD_length, List.length_map]
      exact szS (by omega)
    · intro d hd
      obtain ⟨x, hx, rfl⟩ := List.mem_map.mp hd
      obtain ⟨j, hj⟩ := List.getElem?_of_mem hx
      rw [enumD_at, List.getElem?_map] at hj
      cases hw : w[j]? with
      | none => rw [hw] at hj; cases hj
      | some s =>
        rw [hw] at hj
        have e : x = [D.int (j : Nat), D.int s] := (Option.some.inj hj).symm
        subst e
        refine ⟨_, rfl, rfl, fun _ => ?_⟩
        by_cases e : (j : Int) + 1 = (p : Int)
        · simp [wipeD, g, e]
        · simp [wipeD, g, e]
  simp only [t__law_turn, b__law_turn, e_fnD, e_startD, e_retS, e_callM, e_consA, e_nilA, e_frzE, List.map_cons, List.map_nil, List.length_cons, List.length_nil]
  show (match ((((compE _ _ _ _ _ [some (wordD w), some (.int (p : Nat)), none, none] S).bind _).bind _).bind _ |>.toS _ _) with | .rt d S' => R.ok d S' | .nx _ S' => .ok .non S' | .ex e _ S' => .exc e S' | _ => .bad) = _
  rw [key]
  rfl
/-! ### the draws -/
structure Cup (S : Sto) (c : Nat) : Prop where
  ex : ∃ a b, S[c]? = some (.lst [.int a, .int b]) ∧ 0 ≤ a ∧ 0 ≤ b ∧ b < 2147483648
structure Kp (c : Nat) (S S' : Sto) : Prop where
  len : S.length ≤ S'.length
  kp : ∀ i x, i ≠ c → S[i]? = some x → S'[i]? = some x
theorem Kp.refl (c : Nat) (S : Sto) : Kp c S S := ⟨Nat.le_refl _, fun _ _ _ h => h⟩
theorem Kp.trans {c : Nat} {S S1 S2 : Sto} (a : Kp c S S1) (b : Kp c S1 S2) : Kp c S S2 := ⟨Nat.le_trans a.len b.len, fun i x h q => b.kp i x h (a.kp i x h q)⟩
theorem Kp.set (c : Nat) (S : Sto) (m : MO) : Kp c S (S.set c m) := ⟨by simp, fun i x h q => by rw [List.getElem?_set_ne h.symm]; exact q⟩
theorem get_app {S : Sto} {i : Nat} {x : MO} (E : Sto) (h : S[i]? = some x) : (S ++ E)[i]? = some x := by
  rw [List.getElem?_append_left (List.getElem?_eq_some_iff.mp h).1]; exact h
theorem Kp.app (c : Nat) (S E : Sto) : Kp c S (S ++ E) := ⟨by simp, fun i x _ q => get_app E q⟩
theorem Cup.app {S : Sto} {c : Nat} (h : Cup S c) (E : Sto) : Cup (S ++ E) c := by
  obtain ⟨a, b, h1, h2⟩ := h.ex
  exact ⟨a, b, get_app E h1, h2⟩
theorem roll_eq {c : Nat} {m : Int} {S : Sto} (hc : Cup S c) (hm : 0 < m) (hm2 : m < 1073741824) :
    ∃ r S', t__law_roll [.obj c, .int m] S = .ok (.int r) S' ∧ 0 ≤ r ∧ r < m ∧ Cup S' c ∧ Kp c S S' := by
  obtain ⟨a, b, hS, ha, hb, hb2⟩ := hc.ex
  have hl : c < S.length := (List.getElem?_eq_some_iff.mp hS).1
  have g1 : ∀ m : MO, (S.set c m)[c]? = some m := fun m => List.getElem?_set_self hl
  by_cases h : 0 < a
  · refine ⟨a % m, S.set c (.lst [.int (a / m), .int b]), ?_, Int.emod_nonneg _ (by omega), Int.emod_lt_of_pos _ hm, ⟨_, _, g1 _, Int.ediv_nonneg ha (by omega), hb, hb2⟩, Kp.set _ _ _⟩
    simp [t__law_roll, b__law_roll, hS, atI, ixN, hm, hm2, h, setIx, setM, setL]
  · have e0 : a = 0 := by omega
    subst e0
    have h1 := Int.emod_nonneg (b * 27180 + 7643) (show (2147483423 : Int) ≠ 0 by decide)
    have h2 := Int.emod_lt_of_pos (b * 27180 + 7643) (show (0 : Int) < 2147483423 by decide)
    refine ⟨(((b * 27180 + 7643) % 2147483423 * ((b * 27180 + 7643) % 2147483423 + 2287) % 2147483587) / 3079) % m, S.set c (.lst [.int 0, .int ((b * 27180 + 7643) % 2147483423)]), ?_, Int.emod_nonneg _ (by omega), Int.emod_lt_of_pos _ hm, ⟨_, _, g1 _, Int.le_refl _, h1, by omega⟩, Kp.set _ _ _⟩
    generalize hq : (b * 27180 + 7643) % 2147483423 = q at h1 h2 ⊢
    have hb3 : (-18446744073709551616 < b ∧ b < 18446744073709551616) ∨ (-18446744073709551616 < (27180 : Int) ∧ (27180 : Int) < 18446744073709551616) := .inr (by decide)
    have hq3 : (-18446744073709551616 < q ∧ q < 18446744073709551616) ∨ (-18446744073709551616 < q + 2287 ∧ q + 2287 < 18446744073709551616) := .inl (by omega)
    simp [t__law_roll, b__law_roll, hS, atI, ixN, hm, hm2, setIx, setM, setL, hb3, hq, g1, hq3]
theorem comp_ind {β : BM} {t : TM} {f : EM} {δ : EnvD} (P : Sto → Prop) (Qy : D → Prop) : ∀ (ds : List D) (S : Sto), P S →
    (∀ d, d ∈ ds → ∀ S, P S → ∃ δ1, β d δ = some δ1 ∧ t δ1 S = .ok true S ∧ ∃ y S', f δ1 S = .ok y S' ∧ P S' ∧ Qy y) →
    ∃ ys S', compL β t f ds δ S = .ok ys S' ∧ P S' ∧ ys.length = ds.length ∧ ∀ y ∈ ys, Qy y
  | [], S, h, _ => ⟨[], S, rfl, h, rfl, fun _ h => nomatch h⟩
  | d :: ds, S, h, st => by
    obtain ⟨δ1, h1, h2, y, S1, h3, h4, h5⟩ := st d List.mem_cons_self S h
    obtain ⟨ys, S2, k1, k2, k3, k4⟩ := comp_ind P Qy ds S1 h4 fun e he => st e (List.mem_cons_of_mem _ he)
    refine ⟨y :: ys, S2, ?_, k2, by simp [k3], fun z hz => ?_⟩
    · unfold compL
      rw [h1]
      dsimp only
      rw [h2]
      simp only [noX_ok, bind_ok, if_true, h3, k1]
    · rcases List.mem_cons.mp hz with e | e
      · rw [e]; exact h5
      · exact k4 z e
theorem word_eq {c n : Nat} {S : Sto} (hc : Cup S c) (hn : n ≤ 5) : ∃ w S', t__law_word [.obj c, .int (n : Nat)] S = .ok (wordD w) S' ∧ Wd n w ∧ Cup S' c ∧ Kp c S S' := by
  obtain ⟨ys, S', k1, k2, k3, k4⟩ := comp_ind (β := bName 2) (t := yesT) (f := callD t__law_roll 2 (consA (varE 0) (consA (conE (.int 2)) nilA))) (δ := [some (.obj c), some (.int (n : Nat)), none]) (fun S1 => Cup S1 c ∧ Kp c S S1) (fun y => y = .int 0 ∨ y = .int 1) (rngD 0 n) S ⟨hc, Kp.refl c S⟩ fun d hd S1 h1 => by
    obtain ⟨r, S2, e1, e2, e3, e4, e5⟩ := roll_eq (m := 2) h1.1 (by decide) (by decide)
    refine ⟨_, rfl, rfl, .int r, S2, ?_, ⟨e4, h1.2.trans e5⟩, ?_⟩
    · simp [e1]
    · have : r = 0 ∨ r = 1 := by omega
      rcases this with e | e <;> rw [e] <;> simp
  have hw : ∃ w : List Int, ys = w.map .int ∧ ∀ s ∈ w, s = 0 ∨ s = 1 := by
    clear k1 k2 k3
    induction ys with
    | nil => exact ⟨[], rfl, fun _ h => nomatch h⟩
    | cons y ys ih =>
      obtain ⟨w, e, hw⟩ := ih fun z hz => k4 z (List.mem_cons_of_mem _ hz)
      rcases k4 y List.mem_cons_self with h | h
      · exact ⟨0 :: w, by rw [e, h]; rfl, fun s hs => by rcases List.mem_cons.mp hs with z | z; exact .inl z; exact hw s z⟩
      · exact ⟨1 :: w, by rw [e, h]; rfl, fun s hs => by rcases List.mem_cons.mp hs with z | z; exact .inr z; exact hw s z⟩
  obtain ⟨w, rfl, hw⟩ := hw
  have hlen : w.length = n := by simpa [rngD] using k3
  refine ⟨w, S', ?_, ⟨hlen, hw⟩, k2.1, k2.2⟩
  have it : itR1 (consA (varE 1) nilA) [some (.obj c), some (.int (n : Nat)), none] S = .ok (.stat (rngD 0 n)) S := by
    rw [e_itR1 (j := (n : Nat)) (S1 := S) (h := rfl) (hj := by omega)]
    rfl
  have cc := compE_stat (own := [2]) (β := bName 2) (t := yesT) (f := callD t__law_roll 2 (consA (varE 0) (consA (conE (.int 2)) nilA))) it (by simp only [rngD, List.length_map, List.length_range]; exact szS (by omega))
  simp only [wipeD, List.set_cons_succ, List.set_cons_zero] at cc
  rw [k1] at cc
  simp [t__law_word, b__law_word, cc]
  rfl
end K63
set_option Elab.async false
set_option linter.all false
set_option maxRecDepth 100000
set_option maxHeartbeats 1000000
set_option autoImplicit false
namespace K63
open L3 PySem L2
theorem atI_nat {α : Type} {xs : List α} {r : Int} (h0 : 0 ≤ r) (h1 : r < xs.length) : ∃ (x : α), L2.atI xs r = some x ∧ x ∈ xs := by
  have hl : r.toNat < xs.length := by omega
  refine ⟨xs[r.toNat], ?_, List.getElem_mem hl⟩
  unfold L2.atI ixN
  rw [if_pos h0, if_pos h1]
  show xs[r.toNat]? = _
  exact List.getElem?_eq_getElem hl
theorem some_lst {c : Nat} {S : Sto} {xs : List D} (hc : Cup S c) (h0 : xs ≠ []) (hl : xs.length < 1000000) : ∃ d S', t__law_some [.obj c, .lst xs] S = .ok d S' ∧ d ∈ xs ∧ Cup S' c ∧ Kp c S S' := by
  have hp : 0 < xs.length := List.length_pos_iff.mpr h0
  obtain ⟨r, S', e1, e2, e3, e4, e5⟩ := roll_eq (m := (xs.length : Int)) hc (by omega) (by omega)
  obtain ⟨x, h1, h2⟩ := atI_nat e2 e3
  refine ⟨x, S', ?_, h2, e4, e5⟩
  simp [t__law_some, b__law_some, e1, h1]
theorem some_obj {c k : Nat} {S : Sto} {xs : List D} (hc : Cup S c) (hk : k ≠ c) (hS : S[k]? = some (.lst xs)) (h0 : xs ≠ []) (hl : xs.length < 1000000) : ∃ d S', t__law_some [.obj c, .obj k] S = .ok d S' ∧ d ∈ xs ∧ Cup S' c ∧ Kp c S S' := by
  have hp : 0 < xs.length := List.length_pos_iff.mpr h0
  obtain ⟨r, S', e1, e2, e3, e4, e5⟩ := roll_eq (m := (xs.length : Int)) hc (by omega) (by omega)
  obtain ⟨x, h1, h2⟩ := atI_nat e2 e3
  refine ⟨x, S', ?_, h2, e4, e5⟩
  simp [t__law_some, b__law_some, e1, h1, hS, e5.kp k _ hk hS]
/-! ### cubes -/
def cubeD (n : Nat) (cw : List (List Int)) : D := .tup [.int (n : Nat), .tup (cw.map wordD)]
structure CubeOk (n : Nat) (cw : List (List Int)) : Prop where
  n1 : 1 ≤ n
  n5 : n ≤ 5
  wd : ∀ w ∈ cw, Wd n w
  so : cw.Pairwise fun a b => TS.code 2 a < TS.code 2 b
  le : cw.length ≤ 4
theorem okWords_wd {n : Nat} (h1 : 1 ≤ n) {ws : List (List Int)} (h : ∀ w ∈ ws, Wd n w) : okWords 2 ws = true := by
  cases ws with
  | nil => rfl
  | cons w r =>
    have hw := (h w List.mem_cons_self).1
    show (decide (1 ≤ w.length) && (w :: r).all fun v => decide (v.length = w.length) && v.all fun m => decide (0 ≤ m ∧ m < 2)) = true
    rw [Bool.and_eq_true]
    refine ⟨decide_eq_true (by omega), List.all_eq_true.mpr fun v hv => ?_⟩
    rw [Bool.and_eq_true]
    refine ⟨decide_eq_true (by rw [hw]; exact (h v hv).1), List.all_eq_true.mpr fun m hm => decide_eq_true ?_⟩
    rcases (h v hv).2 m hm with e | e <;> rw [e] <;> decide
theorem strict_of {n : Nat} {ws : List (List Int)} (h : ∀ w ∈ ws, Wd n w) (nd : ws.Nodup) (so : ws.Pairwise fun a b => TS.code 2 a ≤ TS.code 2 b) : ws.Pairwise fun a b => TS.code 2 a < TS.code 2 b := by
  refine List.Pairwise.imp_of_mem (fun {a b} ha hb hab => ?_) (so.and nd)
  have : TS.code 2 a ≠ TS.code 2 b := fun e => hab.2 (code_inj ((h a ha).1.trans (h b hb).1.symm) (bd_wd (h a ha)) (bd_wd (h b hb)) e)
  have := hab.1
  omega
theorem cube_eq {c n : Nat} {S : Sto} (hc : Cup S c) (h1 : 1 ≤ n) (h5 : n ≤ 5) : ∃ cw S', t__law_cube [.obj c, .int (n : Nat)] S = .ok (cubeD n cw) S' ∧ CubeOk n cw ∧ Cup S' c ∧ Kp c S S' := by
  obtain ⟨r, S1, e1, e2, e3, e4, e5⟩ := roll_eq (m := 5) hc (by decide) (by decide)
  obtain ⟨ys, S', k1, k2, k3, k4⟩ := comp_ind (β := bName 2) (t := yesT) (f := callD t__law_word 2 (consA (varE 0) (consA (varE 1) nilA))) (δ := [some (.obj c), some (.int (n : Nat)), none]) (fun S2 => Cup S2 c ∧ Kp c S S2) (fun y => ∃ w, y = wordD w ∧ Wd n w) (rngD 0 r.toNat) S1 ⟨e4, e5⟩ fun d hd S2 h2 => by
    obtain ⟨w, S3, a1, a2, a3, a4⟩ := word_eq (n := n) h2.1 h5
    refine ⟨_, rfl, rfl, wordD w, S3, ?_, ⟨a3, h2.2.trans a4⟩, w, rfl, a2⟩
    simp [a1]
  have hw : ∃ ws : List (List Int), ys = ws.map wordD ∧ ∀ w ∈ ws, Wd n w := by
    clear k1 k2 k3
    induction ys with
    | nil => exact ⟨[], rfl, fun _ h => nomatch h⟩
    | cons y ys ih =>
      obtain ⟨ws, e, hw⟩ := ih fun z hz => k4 z (List.mem_cons_of_mem _ hz)
      obtain ⟨w, e', h'⟩ := k4 y List.mem_cons_self
      exact ⟨w :: ws, by rw [e, e']; rfl, fun s hs => by rcases List.mem_cons.mp hs with z | z; exact z ▸ h'; exact hw s z⟩
  obtain ⟨ws, rfl, hw⟩ := hw
  have hlen : ws.length ≤ 4 := by
    have : ws.length = r.toNat := by simpa [rngD] using k3
    omega
  have it : itR1 (consA (callD t__law_roll 2 (consA (varE 0) (consA (conE (.int 5)) nilA))) nilA) [some (.obj c), some (.int (n : Nat)), none] S = .ok (.stat (rngD 0 r.toNat)) S1 := by
    rw [e_itR1 (j := r) (S1 := S1) (h := by simp [e1]) (hj := by omega)]
  have cc := compE_stat (own := [2]) (β := bName 2) (t := yesT) (f := callD t__law_word 2 (consA (varE 0) (consA (varE 1) nilA))) it (by simp only [rngD, List.length_map, List.length_range]; exact szS (by omega))
  simp only [wipeD, List.set_cons_succ, List.set_cons_zero] at cc
  rw [k1] at cc
  have sd : sortSD 2 [.lst (ws.map wordD)] S' = .ok ((sortC 2 (dedupW ws)).map wordD) S' := by
    show (match wordsOf (ws.map wordD) with | some ws => if ws.length < 64 ∧ okWords 2 ws = true then R.ok ((sortC 2 (dedupW ws)).map wordD) S' else .bad | none => .bad) = _
    rw [wordsOf_map]
    dsimp only
    rw [if_pos ⟨by omega, okWords_wd h1 hw⟩]
  have pm := sortC_perm 2 (dedupW ws)
  have hw' : ∀ w ∈ sortC 2 (dedupW ws), Wd n w := fun w h => hw w (dedupW_mem.mp (pm.mem_iff.mp h))
  have hle : ∀ l : List (List Int), (dedupW l).length ≤ l.length := fun l => by
    induction l with
    | nil => exact Nat.le_refl _
    | cons x r ih =>
      unfold dedupW
      split
      · exact Nat.le_succ_of_le ih
      · exact Nat.succ_le_succ ih
  refine ⟨sortC 2 (dedupW ws), S', ?_, ⟨h1, h5, hw', strict_of hw' ((pm.nodup_iff).mpr (dedupW_nodup ws)) (sortC_sorted 2 _), ?_⟩, k2.1, k2.2⟩
  · simp [t__law_cube, b__law_cube, cc, sd]
    rfl
  · rw [pm.length_eq]; exact Nat.le_trans (hle ws) hlen
theorem lex_of_code : ∀ {a b : List Int}, a.length = b.length → TS.Bd 2 a → TS.Bd 2 b → TS.code 2 a < TS.code 2 b → HT.lexLt a b = true
  | [], [], _, _, _, h => by simp [TS.code] at h
  | [], _ :: _, h, _, _, _ => by simp at h
  | _ :: _, [], h, _, _, _ => by simp at h
  | x :: a, y :: b, h, h1, h2, hc => by
    have hl : a.length = b.length := by simpa using h
    rw [HT.lexLt_cons]
    by_cases e : x = y
    · subst e
      rw [if_pos rfl]
      exact lex_of_code hl h1.tail h2.tail ((TS.code_same hl).mp hc)
    · rw [if_neg e]
      refine decide_eq_true ?_
      rcases Int.lt_trichotomy x y with z | z | z
      · exact z
      · exact absurd z e
      · have := TS.code_lt hl.symm h2.tail h1.tail z
        omega
theorem whole_eq (i lo hi : Int) (S : Sto) : t_fits_whole [.int i, .int lo, .int hi] S = .ok (.bl (decide (lo ≤ i) && decide (i ≤ hi))) S := by
  by_cases h : lo ≤ i
  · simp [t_fits_whole, b_fits_whole, tyName, isTy, h]
  · simp [t_fits_whole, b_fits_whole, tyName, isTy, h]
theorem tuple_of_eq (xs : List D) (lo hi : Int) (S : Sto) : t_is_tuple_of [.tup xs, .int lo, .int hi] S = .ok (.bl (decide (lo ≤ (xs.length : Int)) && decide ((xs.length : Int) ≤ hi))) S := by
  by_cases h : lo ≤ (xs.length : Int)
  · simp [t_is_tuple_of, b_is_tuple_of, tyName, isTy, h]
  · simp [t_is_tuple_of, b_is_tuple_of, tyName, isTy, h]
@[simp] theorem boolsOf_rep : ∀ k : Nat, boolsOf (List.replicate k (D.bl true)) = some (List.replicate k true)
  | 0 => rfl
  | k + 1 => by
    rw [List.replicate_succ, List.replicate_succ]
    show (match boolsOf (List.replicate k (D.bl true)) with | some l => some (true :: l) | none => none) = _
    rw [boolsOf_rep k]
theorem comp_rep {it : IM} {own : List Nat} {β : BM} {f : EM} {δ : EnvD} {S S1 : Sto} {ds : List D} (hi : it δ S = .ok (.stat ds) S1) (hl : ds.length ≤ sizeLine)
    (h : ∀ d, d ∈ ds → ∃ δ1, β d (wipeD δ own) = some δ1 ∧ f δ1 S1 = .ok (.bl true) S1) : compE it own β yesT f δ S = .ok (List.replicate ds.length (.bl true)) S1 := by
  rw [comp_same (fun _ => true) (fun _ => .bl true) hi hl fun d hd => by
    obtain ⟨δ1, h1, h2⟩ := h d hd
    exact ⟨δ1, h1, rfl, fun _ => h2⟩, List.filter_eq_self.mpr (fun _ _ => rfl), List.map_const']
theorem fits_word_eq {n : Nat} {w : List Int} (h : Wd n w) (h1 : 1 ≤ n) (h5 : n ≤ 5) (S : Sto) : t_fits_word [wordD w] S = .ok (.bl true) S := by
  have cc : compE (itQ (varE 0)) [1] (bName 1) yesT (callD t_fits_whole 3 (consA (varE 1) (consA (conE (.int 0)) (consA (conE (.int 1)) nilA)))) [some (.tup (w.map .int)), none] S = .ok (List.replicate (w.map D.int).length (.bl true)) S := by
    refine comp_rep (e_itQ (d := wordD w) (S1 := S) (by simp [wordD]) rfl) (by rw [List.length_map]; exact szS (by have := h.1; omega)) fun d hd => ?_
    obtain ⟨s, hs, rfl⟩ := List.mem_map.mp hd
    refine ⟨_, rfl, ?_⟩
    have hb : (decide (0 ≤ s) && decide (s ≤ 1)) = true := by rcases h.2 s hs with e | e <;> rw [e] <;> rfl
    simp only [e_callD, e_consA, e_varE, e_conE, e_nilA, wipeD, List.set_cons_succ, List.set_cons_zero, List.getElem?_cons_zero, List.getElem?_cons_succ, bind_ok, List.length_cons, List.length_nil, if_true, whole_eq, hb]
  have tt := tuple_of_eq (w.map .int) 1 16 S
  have h1' : (1 : Int) ≤ (w.length : Int) := by have := h.1; omega
  have h2' : (w.length : Int) ≤ 16 := by have := h.1; omega
  simp only [List.length_map, h1', h2', decide_true, Bool.and_self] at tt cc
  unfold wordD
  simp [t_fits_word, b_fits_word, cc, tt]
theorem cut1 (xs : List D) : cutD xs (some 1) none = xs.drop 1 := by
  have e := sIx_nat' xs.length 0 1
  unfold cutD
  rw [show (some (1 : Int)) = some ((1 : Nat) : Int) from rfl, e, HT.sIx_none]
  cases xs with
  | nil => rfl
  | cons x r =>
    simp only [List.length_cons]
    rw [Nat.min_eq_left (by omega)]
    exact List.take_of_length_le (by simp)
theorem fits_cube_eq {n : Nat} {cw : List (List Int)} (h : CubeOk n cw) (S : Sto) : t_fits_cube [cubeD n cw] S = .ok (.bl true) S := by
  have hn1 := h.n1
  have hn5 := h.n5
  have hle := h.le
  have w1 := whole_eq (n : Int) 1 6 S
  have h1' : (1 : Int) ≤ (n : Int) := by omega
  have h2' : (n : Int) ≤ 6 := by omega
  have tt := tuple_of_eq [.int (n : Nat), .tup (cw.map wordD)] 2 2 S
  simp only [h1', h2', decide_true, Bool.and_self, List.length_cons, List.length_nil] at w1 tt
  have c1 : compE (itQ (bin2 ixD (varE 0) (conE (.int 1)))) [1] (bName 1) yesT (andV (callD t_fits_word 1 (consA (varE 1) nilA)) (bin2 eqD (callM lenD (consA (varE 1) nilA)) (bin2 ixD (varE 0) (conE (.int 0))))) [some (.tup [.int (n : Nat), .tup (cw.map wordD)]), none, none, none] S = .ok (List.replicate (cw.map wordD).length (.bl true)) S := by
    refine comp_rep (e_itQ (d := .tup (cw.map wordD)) (S1 := S) (by simp [atI, ixN]) rfl) (by rw [List.length_map]; exact szS (by omega)) fun d hd => ?_
    obtain ⟨w, hw, rfl⟩ := List.mem_map.mp hd
    refine ⟨_, rfl, ?_⟩
    have e1 := fits_word_eq (h.wd w hw) hn1 hn5 S
    have e2 : lenQ (wordD w) S = some w.length := by show some (w.map D.int).length = _; rw [List.length_map]
    simp [wipeD, e1, e2, atI, ixN, (h.wd w hw).1]
  have c2 : compE (itZp (consA (bin2 ixD (varE 0) (conE (.int 1))) (consA (slE (bin2 ixD (varE 0) (conE (.int 1))) (somePart (conE (.int 1))) noPart) nilA))) [2, 3] (bTup (bCons (bName 2) (bCons (bName 3) bNil))) yesT (bin2 ltA (varE 2) (varE 3)) [some (.tup [.int (n : Nat), .tup (cw.map wordD)]), none, none, none] S = .ok (List.replicate ((zipD (cw.map wordD) ((cw.map wordD).drop 1)).map D.tup).length (.bl true)) S := by
    refine comp_rep ?_ ?_ fun d hd => ?_
    · unfold itZp
      simp [atI, ixN, cut1, itemsF]
    · rw [List.length_map]
      exact szS (by simp [zipD]; omega)
    · obtain ⟨x, hx, rfl⟩ := List.mem_map.mp hd
      obtain ⟨i, hi⟩ := List.getElem?_of_mem hx
      obtain ⟨p, q, hp, hq, rfl⟩ := zipD_at hi
      rw [List.getElem?_drop, List.getElem?_map] at hq
      rw [List.getElem?_map] at hp
      obtain ⟨u, hu, rfl⟩ := Option.map_eq_some_iff.mp hp
      obtain ⟨v, hv, rfl⟩ := Option.map_eq_some_iff.mp hq
      refine ⟨_, rfl, ?_⟩
      have mu := List.mem_of_getElem? hu
      have mv := List.mem_of_getElem? hv
      obtain ⟨l1, g1⟩ := List.getElem?_eq_some_iff.mp hu
      obtain ⟨l2, g2⟩ := List.getElem?_eq_some_iff.mp hv
      have hc := List.pairwise_iff_getElem.mp h.so i (1 + i) l1 l2 (by omega)
      rw [g1, g2] at hc
      have lx := lex_of_code ((h.wd u mu).1.trans (h.wd v mv).1.symm) (bd_wd (h.wd u mu)) (bd_wd (h.wd v mv)) hc
      simp [wipeD, lx]
  unfold cubeD
  simp [t_fits_cube, b_fits_cube, c1, c2, tt, w1, atI, ixN, tyName, isTy]
theorem need_cube_eq {n : Nat} {cw : List (List Int)} (h : CubeOk n cw) (S : Sto) : t_need_cube [cubeD n cw] S = .ok .non S := by
  simp [t_need_cube, b_need_cube, fits_cube_eq h]
end K63
set_option Elab.async false
set_option linter.all false
set_option maxRecDepth 100000
set_option maxHeartbeats 1000000
set_option autoImplicit false
namespace K63
open L3 PySem L2
theorem okC {a : List Nat} (h : a.all (fun c => decide (c < 1114112)) = true) : PyData.strOk ⟨a.toArray⟩ = true := by
  unfold PyData.strOk
  simpa using h
theorem eqS {a b : List Nat} (ha : a.all (fun c => decide (c < 1114112)) = true) (hb : b.all (fun c => decide (c < 1114112)) = true) (S : Sto) : eqD (.str a) (.str b) S = .ok (.bl (decide (a = b))) S := e_eqS S a b (okC ha) (okC hb)
theorem inS2 {a b c : List Nat} (ha : a.all (fun c => decide (c < 1114112)) = true) (hb : b.all (fun c => decide (c < 1114112)) = true) (hc : c.all (fun c => decide (c < 1114112)) = true) (S : Sto) : inA false (.str a) (.tup [.str b, .str c]) S = .ok (.bl (decide (b = a) || decide (c = a))) S := by
  have e : inQ false (.str a) (.tup [.str b, .str c]) S = .ok (.bl (decide (b = a) || decide (c = a))) S := by
    unfold inQ
    have e1 : pyS (.str a) S = some (.str ⟨a.toArray⟩) := rfl
    have e2 : pyItems (.tup [.str b, .str c]) S = some [.str ⟨b.toArray⟩, .str ⟨c.toArray⟩] := rfl
    rw [e1, e2]
    dsimp only
    rw [if_pos]
    · simp [PyData.eqv, str_beq]
    · simp [SeqAt.shaped, PyData.canLay0, PyData.canLayAll0, PyData.depth, PyData.depthAll, okC ha, okC hb, okC hc]
  show orR .bad (orR (inQ false (.str a) (.tup [.str b, .str c]) S) _) = _
  rw [e]
  rfl
/-! ### dicts of words -/
def kv (ws : List (List Int)) : List (List L2.Key × D) := ws.map fun w => (wordK w, .bl true)
theorem wordK_inj {a b : List Int} (h : wordK a = wordK b) : a = b := by
  have := congrArg keysW.keyW h
  simpa using this
theorem get_kv (w : List Int) : ∀ ws : List (List Int), (getKD (kv ws) (wordK w)).isSome = decide (w ∈ ws)
  | [] => by simp [kv, getKD]
  | v :: r => by
    have ih := get_kv w r
    unfold kv getKD at ih ⊢
    rw [List.map_cons, List.find?_cons]
    by_cases e : v = w
    · subst e; simp
    · have e' : ¬ wordK v = wordK w := fun z => e (wordK_inj z)
      have e2 : ¬ w = v := fun z => e z.symm
      simp only [e', decide_false]
      rw [ih]
      simp [e2]
theorem any_kv (w : List Int) (ws : List (List Int)) : ((kv ws).any fun p => decide (p.1 = wordK w)) = decide (w ∈ ws) := by
  induction ws with
  | nil => simp [kv]
  | cons v r ih =>
    unfold kv at ih ⊢
    rw [List.map_cons, List.any_cons, ih]
    by_cases e : v = w
    · subst e; simp
    · have e' : ¬ wordK v = wordK w := fun z => e (wordK_inj z)
      have e2 : ¬ w = v := fun z => e z.symm
      simp [e', e2]
theorem put_kv {w : List Int} {ws : List (List Int)} (h : w ∉ ws) : putKD (kv ws) (wordK w) (.bl true) = kv (ws ++ [w]) := by
  unfold putKD
  rw [any_kv, decide_eq_false h]
  simp [kv]
theorem drop_kv (w : List Int) (ws : List (List Int)) : dropKD (kv ws) (wordK w) = kv (ws.filter fun v => decide (v ≠ w)) := by
  induction ws with
  | nil => rfl
  | cons v r ih =>
    unfold dropKD kv at ih ⊢
    rw [List.map_cons, List.filter_cons, List.filter_cons]
    by_cases e : v = w
    · subst e; simpa using ih
    · have e' : ¬ wordK v = wordK w := fun z => e (wordK_inj z)
      simp [e, e'] at ih ⊢
      exact ih
theorem len_kv (ws : List (List Int)) : (kv ws).length = ws.length := by simp [kv]
theorem keys_kv (ws : List (List Int)) : (kv ws).map (·.1) = ws.map wordK := by simp [kv, Function.comp_def]
/-! ### deeds -/
inductive Deed where
  | beg (w : List Int)
  | turn (p : Nat)
  | bar (w : List Int)
  | free (w : List Int)
def deedD : Deed → D
  | .beg w => .tup [.str [98, 101, 103, 105, 110], wordD w]
  | .turn p => .tup [.str [116, 117, 114, 110], .int (p : Nat)]
  | .bar w => .tup [.str [98, 97, 114], wordD w]
  | .free w => .tup [.str [102, 114, 101, 101], wordD w]
def DeedOk (n : Nat) : Deed → Prop
  | .beg w => Wd n w
  | .turn p => 1 ≤ p ∧ p ≤ n
  | .bar w => Wd n w
  | .free w => Wd n w
abbrev LB := List (List Int) × List (List Int)
def stepM (st : LB) : Deed → Option LB
  | .beg w => if st.1 = [] ∧ w ∉ st.2 then some (st.1 ++ [w], st.2) else none
  | .turn p => match st.1.getLast? with
    | some l => if turnW l p ∉ st.2 ∧ turnW l p ∉ st.1 then some (st.1 ++ [turnW l p], st.2) else none
    | none => none
  | .bar w => if w ∉ st.2 ∧ w ∉ st.1 then some (st.1, st.2 ++ [w]) else none
  | .free w => if w ∈ st.2 then some (st.1, st.2.filter fun v => decide (v ≠ w)) else none
structure StOk (n : Nat) (st : LB) : Prop where
  l : ∀ w ∈ st.1, Wd n w
  b : ∀ w ∈ st.2, Wd n w
  nl : st.1.Nodup
  nb : st.2.Nodup
  dj : ∀ w ∈ st.1, w ∉ st.2
theorem step_ok {n : Nat} {st st' : LB} {e : Deed} (h : StOk n st) (he : DeedOk n e) (hs : stepM st e = some st') : StOk n st' := by
  cases e with
  | beg w =>
    simp only [stepM] at hs
    split at hs
    · rename_i hc
      cases hs
      refine ⟨fun v hv => ?_, h.b, by rw [hc.1]; simp, h.nb, fun v hv => ?_⟩
      · rw [hc.1] at hv
        have : v = w := by simpa using hv
        rw [this]; exact he
      · rw [hc.1] at hv
        have : v = w := by simpa using hv
        rw [this]; exact hc.2
    · cases hs
  | turn p =>
    simp only [stepM] at hs
    cases hl : st.1.getLast? with
    | none => rw [hl] at hs; cases hs
    | some l =>
      rw [hl] at hs
      dsimp only at hs
      split at hs
      · rename_i hc
        cases hs
        have hw : Wd n (turnW l p) := turn_wd (h.l l (List.mem_of_getLast? hl)) he.1 he.2
        refine ⟨fun v hv => ?_, h.b, ?_, h.nb, fun v hv => ?_⟩
        · rcases List.mem_append.mp hv with z | z
          · exact h.l v z
          · have : v = turnW l p := by simpa using z
            rw [this]; exact hw
        · rw [List.nodup_append]
          exact ⟨h.nl, by simp, fun a ha b hb e => by
            have : b = turnW l p := by simpa using hb
            rw [e, this] at ha
            exact hc.2 ha⟩
        · rcases List.mem_append.mp hv with z | z
          · exact h.dj v z
          · have : v = turnW l p := by simpa using z
            rw [this]; exact hc.1
      · cases hs
  | bar w =>
    simp only [stepM] at hs
    split at hs
    · rename_i hc
      cases hs
      refine ⟨h.l, fun v hv => ?_, h.nl, ?_, fun v hv z => ?_⟩
      · rcases List.mem_append.mp hv with z | z
        · exact h.b v z
        · have : v = w := by simpa using z
          rw [this]; exact he
      · rw [List.nodup_append]
        exact ⟨h.nb, by simp, fun a ha b hb e => by
          have : b = w := by simpa using hb
          rw [e, this] at ha
          exact hc.1 ha⟩
      · rcases List.mem_append.mp z with z | z
        · exact h.dj v hv z
        · have : v = w := by simpa using z
          rw [this] at hv
          exact hc.2 hv
    · cases hs
  | free w =>
    simp only [stepM] at hs
    split at hs
    · rename_i hc
      cases hs
      exact ⟨h.l, fun v hv => h.b v (List.mem_filter.mp hv).1, h.nl, h.nb.filter _, fun v hv z => h.dj v hv (List.mem_filter.mp z).1⟩
    · cases hs
@[simp] theorem notN_word (w : List Int) (S : Sto) : isN true (wordD w) .non S = .ok (.bl true) S := id rfl
/-! ### a desk in the store -/
def deskF (q a b c d e : D) : List (Str × D) := [("cube", q), ("deeds", a), ("taken", b), ("bars", c), ("line", d), ("laid", e)]
section
variable (q a b c d e : D)
@[simp] theorem lk_cube : List.lookup (Str.ofString "cube") (deskF q a b c d e) = some q := id rfl
@[simp] theorem lk_deeds : List.lookup (Str.ofString "deeds") (deskF q a b c d e) = some a := id rfl
@[simp] theorem lk_taken : List.lookup (Str.ofString "taken") (deskF q a b c d e) = some b := id rfl
@[simp] theorem lk_bars : List.lookup (Str.ofString "bars") (deskF q a b c d e) = some c := id rfl
@[simp] theorem lk_line : List.lookup (Str.ofString "line") (deskF q a b c d e) = some d := id rfl
@[simp] theorem lk_laid : List.lookup (Str.ofString "laid") (deskF q a b c d e) = some e := id rfl
@[simp] theorem mt_can : List.lookup (Str.ofString "can") (deskF q a b c d e) = none := id rfl
@[simp] theorem mt_do : List.lookup (Str.ofString "do") (deskF q a b c d e) = none := id rfl
@[simp] theorem mt_done : List.lookup (Str.ofString "done") (deskF q a b c d e) = none := id rfl
@[simp] theorem mt_clear : List.lookup (Str.ofString "clear") (deskF q a b c d e) = none := id rfl
@[simp] theorem mt_again : List.lookup (Str.ofString "again") (deskF q a b c d e) = none := id rfl
@[simp] theorem mt_need : List.lookup (Str.ofString "need_word") (deskF q a b c d e) = none := id rfl
@[simp] theorem mt_words : List.lookup (Str.ofString "words") (deskF q a b c d e) = none := id rfl
@[simp] theorem mt_barred : List.lookup (Str.ofString "barred") (deskF q a b c d e) = none := id rfl
@[simp] theorem mt_able : List.lookup (Str.ofString "able") (deskF q a b c d e) = none := id rfl
@[simp] theorem mt_left : List.lookup (Str.ofString "left") (deskF q a b c d e) = none := id rfl
@[simp] theorem mt_whole : List.lookup (Str.ofString "is_whole") (deskF q a b c d e) = none := id rfl
@[simp] theorem mt_round : List.lookup (Str.ofString "is_round") (deskF q a b c d e) = none := id rfl
@[simp] theorem mt_begin : List.lookup (Str.ofString "begin") (deskF q a b c d e) = none := id rfl
@[simp] theorem mt_turn : List.lookup (Str.ofString "turn") (deskF q a b c d e) = none := id rfl
@[simp] theorem mt_bar : List.lookup (Str.ofString "bar") (deskF q a b c d e) = none := id rfl
@[simp] theorem mt_free : List.lookup (Str.ofString "free") (deskF q a b c d e) = none := id rfl
@[simp] theorem mt_undo : List.lookup (Str.ofString "undo") (deskF q a b c d e) = none := id rfl
@[simp] theorem mt_redo : List.lookup (Str.ofString "redo") (deskF q a b c d e) = none := id rfl
@[simp] theorem mt_log : List.lookup (Str.ofString "log") (deskF q a b c d e) = none := id rfl
@[simp] theorem pt_taken (v : D) : putD (Str.ofString "taken") v (deskF q a b c d e) = deskF q a v c d e := id rfl
@[simp] theorem pt_bars (v : D) : putD (Str.ofString "bars") v (deskF q a b c d e) = deskF q a b v d e := id rfl
@[simp] theorem pt_line (v : D) : putD (Str.ofString "line") v (deskF q a b c d e) = deskF q a b c v e := id rfl
@[simp] theorem pt_laid (v : D) : putD (Str.ofString "laid") v (deskF q a b c d e) = deskF q a b c d v := id rfl
@[simp] theorem ln_desk : (deskF q a b c d e).length = 6 := id rfl
end
structure DS (S : Sto) (d i1 i2 i3 i4 i5 n : Nat) (cw : List (List Int)) (dd tk : List Deed) (st : LB) : Prop where
  ins : S[d]? = some (.ins (Str.ofString "Desk") (deskF (cubeD n cw) (.obj i1) (.obj i2) (.obj i3) (.obj i4) (.obj i5)))
  s1 : S[i1]? = some (.lst (dd.map deedD))
  s2 : S[i2]? = some (.lst (tk.map deedD))
  s3 : S[i3]? = some (.dT (kv st.2))
  s4 : S[i4]? = some (.lst (st.1.map wordD))
  s5 : S[i5]? = some (.dT (kv st.1))
  n12 : i1 ≠ i2
  n14 : i1 ≠ i4
  n24 : i2 ≠ i4
  n35 : i3 ≠ i5
/-- others than these stay -/
structure Fr (ks : List Nat) (S S' : Sto) : Prop where
  len : S.length ≤ S'.length
  kp : ∀ i x, i ∉ ks → S[i]? = some x → S'[i]? = some x
theorem Fr.refl (ks : List Nat) (S : Sto) : Fr ks S S := ⟨Nat.le_refl _, fun _ _ _ h => h⟩
theorem Fr.trans {ks : List Nat} {S S1 S2 : Sto} (a : Fr ks S S1) (b : Fr ks S1 S2) : Fr ks S S2 := ⟨Nat.le_trans a.len b.len, fun i x h q => b.kp i x h (a.kp i x h q)⟩
theorem Fr.set {ks : List Nat} {k : Nat} (S : Sto) (m : MO) (h : k ∈ ks) : Fr ks S (S.set k m) := ⟨by simp, fun i x hi q => by rw [List.getElem?_set_ne (fun z => hi (by rw [← z]; exact h))]; exact q⟩
theorem Fr.app (ks : List Nat) (S E : Sto) : Fr ks S (S ++ E) := ⟨by simp, fun i x _ q => get_app E q⟩
theorem Fr.mono {ks ls : List Nat} {S S' : Sto} (a : Fr ks S S') (h : ∀ i ∈ ks, i ∈ ls) : Fr ls S S' := ⟨a.len, fun i x hi q => a.kp i x (fun z => hi (h i z)) q⟩
theorem last_word (ws : List (List Int)) (l : List Int) (h : ws.getLast? = some l) : L2.atI (ws.map wordD) (-1) = some (wordD l) := by
  have hne : ws ≠ [] := fun e => by subst e; cases h
  have hl : 0 < ws.length := List.length_pos_iff.mpr hne
  have e : ws[ws.length - 1]? = some l := by rw [← List.getLast?_eq_getElem?]; exact h
  unfold L2.atI ixN
  rw [if_neg (by decide), if_pos (by simp; omega)]
  show (ws.map wordD)[(-1 + ((ws.map wordD).length : Int)).toNat]? = _
  rw [List.length_map, show (-1 + (ws.length : Int)).toNat = ws.length - 1 by omega, List.getElem?_map, e]
  rfl
section
variable {S : Sto} {d i1 i2 i3 i4 i5 n : Nat} {cw : List (List Int)} {dd tk : List Deed} {st : LB}
theorem can_eq (h : DS S d i1 i2 i3 i4 i5 n cw dd tk st) (h5 : n ≤ 5) (ok : StOk n st) {e : Deed} (he : DeedOk n e) : t_Desk_can [.obj d, deedD e] S = .ok (.bl (stepM st e).isSome) S := by
  have q0 := h.ins
  have q3 := h.s3
  have q4 := h.s4
  have q5 := h.s5
  have b1 : ∀ w, inA true (wordD w) (.obj i3) S = .ok (.bl (!decide (w ∈ st.2))) S := fun w => by rw [in_dict S true q3 (e_keyW w), get_kv]; rfl
  have b0 : ∀ w, inA false (wordD w) (.obj i3) S = .ok (.bl (decide (w ∈ st.2))) S := fun w => by rw [in_dict S false q3 (e_keyW w), get_kv]; rfl
  have l1 : ∀ w, inA true (wordD w) (.obj i5) S = .ok (.bl (!decide (w ∈ st.1))) S := fun w => by rw [in_dict S true q5 (e_keyW w), get_kv]; rfl
  have hx : asL (.obj i4) S = some (st.1.map wordD) := by simp [q4]
  have en := eq_nil hx (layL_words st.1)
  have nn := ne_nil hx (layL_words st.1)
  cases e with
  | beg w =>
    by_cases h1 : st.1 = []
    · by_cases h2 : w ∈ st.2 <;> simp [t_Desk_can, b_Desk_can, deedD, eqS, q0, en, b1, h1, h2, stepM]
    · simp [t_Desk_can, b_Desk_can, deedD, eqS, q0, en, b1, h1, stepM]
  | turn p =>
    cases hl : st.1.getLast? with
    | none =>
      have e0 : st.1 = [] := List.getLast?_eq_none_iff.mp hl
      simp [t_Desk_can, b_Desk_can, deedD, eqS, q0, nn, e0, stepM]
    | some l =>
      have hne : st.1 ≠ [] := fun e => by rw [e] at hl; cases hl
      have ta := turned_at_eq (ok.l l (List.mem_of_getLast? hl)) h5 he.1 he.2 S
      have la := last_word st.1 l hl
      by_cases h2 : turnW l p ∈ st.2
      · simp [t_Desk_can, b_Desk_can, deedD, eqS, q0, q4, nn, hne, stepM, hl, la, ta, b1, l1, h2]
      · by_cases h3 : turnW l p ∈ st.1 <;> simp [t_Desk_can, b_Desk_can, deedD, eqS, q0, q4, nn, hne, stepM, hl, la, ta, b1, l1, h2, h3]
  | bar w =>
    by_cases h2 : w ∈ st.2
    · simp [t_Desk_can, b_Desk_can, deedD, eqS, q0, b1, l1, h2, stepM]
    · by_cases h1 : w ∈ st.1 <;> simp [t_Desk_can, b_Desk_can, deedD, eqS, q0, b1, l1, h1, h2, stepM]
  | free w =>
    by_cases h2 : w ∈ st.2 <;> simp [t_Desk_can, b_Desk_can, deedD, eqS, q0, b0, h2, stepM]
end
end K63
set_option Elab.async false
set_option linter.all false
set_option maxRecDepth 100000
set_option maxHeartbeats 1000000
set_option autoImplicit false
namespace K63
open L3 PySem L2
theorem set_new {S : Sto} {k : Nat} {w : List Int} {ws : List (List Int)} (hS : S[k]? = some (.dT (kv ws))) (h : w ∉ ws) (hl : ws.length ≤ 1000) : setIx (.obj k) (wordD w) (.bl true) S = some (S.set k (.dT (kv (ws ++ [w])))) := by
  have e : setM (.dT (kv ws)) (wordD w) (.bl true) = some (.dT (kv (ws ++ [w]))) := by
    show setT (kv ws) (wordD w) (.bl true) = _
    unfold setT
    rw [e_keyW]
    dsimp only
    rw [if_pos (by rw [len_kv]; exact Nat.lt_of_lt_of_le (by omega : ws.length < 1001) (by rw [sizeLine_eq]; omega)), put_kv h]
  unfold setIx
  dsimp only
  rw [hS]
  dsimp only
  rw [e]
theorem del_old {S : Sto} {k : Nat} {w : List Int} {ws : List (List Int)} (hS : S[k]? = some (.dT (kv ws))) (h : w ∈ ws) : delT (.obj k) (wordD w) S = some (S.set k (.dT (kv (ws.filter fun v => decide (v ≠ w))))) := by
  unfold delT
  rw [e_keyW, e_dtOf, hS]
  dsimp only
  rw [if_pos (by rw [get_kv, decide_eq_true h]), drop_kv]
section
variable {S : Sto} {d i1 i2 i3 i4 i5 n : Nat} {cw : List (List Int)} {dd tk : List Deed} {st : LB}
theorem DS.dn (h : DS S d i1 i2 i3 i4 i5 n cw dd tk st) : d ≠ i1 ∧ d ≠ i2 ∧ d ≠ i3 ∧ d ≠ i4 ∧ d ≠ i5 ∧ i1 ≠ i3 ∧ i1 ≠ i5 ∧ i2 ≠ i3 ∧ i2 ≠ i5 ∧ i3 ≠ i4 ∧ i4 ≠ i5 := by
  have ne : ∀ {i j : Nat} {x y : MO}, S[i]? = some x → S[j]? = some y → x ≠ y → i ≠ j := fun hi hj hn e => hn (by subst e; rw [hi] at hj; exact Option.some.inj hj)
  exact ⟨ne h.ins h.s1 (by simp), ne h.ins h.s2 (by simp), ne h.ins h.s3 (by simp), ne h.ins h.s4 (by simp), ne h.ins h.s5 (by simp), ne h.s1 h.s3 (by simp), ne h.s1 h.s5 (by simp), ne h.s2 h.s3 (by simp), ne h.s2 h.s5 (by simp), ne h.s3 h.s4 (by simp), ne h.s4 h.s5 (by simp)⟩
theorem DS.lt (h : DS S d i1 i2 i3 i4 i5 n cw dd tk st) : d < S.length ∧ i1 < S.length ∧ i2 < S.length ∧ i3 < S.length ∧ i4 < S.length ∧ i5 < S.length :=
  ⟨(List.getElem?_eq_some_iff.mp h.ins).1, (List.getElem?_eq_some_iff.mp h.s1).1, (List.getElem?_eq_some_iff.mp h.s2).1, (List.getElem?_eq_some_iff.mp h.s3).1, (List.getElem?_eq_some_iff.mp h.s4).1, (List.getElem?_eq_some_iff.mp h.s5).1⟩
theorem sg {S : Sto} {k i : Nat} {m x : MO} (h : i ≠ k) (q : S[i]? = some x) : (S.set k m)[i]? = some x := by rw [List.getElem?_set_ne (Ne.symm h)]; exact q
theorem ss {S : Sto} {k : Nat} {m : MO} (h : k < S.length) : (S.set k m)[k]? = some m := List.getElem?_set_self h
theorem DS.setB (h : DS S d i1 i2 i3 i4 i5 n cw dd tk st) (bs : List (List Int)) : DS (S.set i3 (.dT (kv bs))) d i1 i2 i3 i4 i5 n cw dd tk (st.1, bs) := by
  obtain ⟨d1, d2, d3, d4, d5, e13, e15, e23, e25, e34, e45⟩ := h.dn
  obtain ⟨l0, l1, l2, l3, l4, l5⟩ := h.lt
  exact ⟨sg d3 h.ins, sg e13 h.s1, sg e23 h.s2, ss l3, sg (Ne.symm e34) h.s4, sg (Ne.symm h.n35) h.s5, h.n12, h.n14, h.n24, h.n35⟩
theorem DS.setL (h : DS S d i1 i2 i3 i4 i5 n cw dd tk st) (ls : List (List Int)) : DS ((S.set i4 (.lst (ls.map wordD))).set i5 (.dT (kv ls))) d i1 i2 i3 i4 i5 n cw dd tk (ls, st.2) := by
  obtain ⟨d1, d2, d3, d4, d5, e13, e15, e23, e25, e34, e45⟩ := h.dn
  obtain ⟨l0, l1, l2, l3, l4, l5⟩ := h.lt
  exact ⟨sg d5 (sg d4 h.ins), sg e15 (sg h.n14 h.s1), sg e25 (sg h.n24 h.s2), sg h.n35 (sg e34 h.s3), sg e45 (ss l4), ss (by simpa using l5), h.n12, h.n14, h.n24, h.n35⟩
theorem DS.setD (h : DS S d i1 i2 i3 i4 i5 n cw dd tk st) (ds : List Deed) : DS (S.set i1 (.lst (ds.map deedD))) d i1 i2 i3 i4 i5 n cw ds tk st := by
  obtain ⟨d1, d2, d3, d4, d5, e13, e15, e23, e25, e34, e45⟩ := h.dn
  obtain ⟨l0, l1, l2, l3, l4, l5⟩ := h.lt
  exact ⟨sg d1 h.ins, ss l1, sg (Ne.symm h.n12) h.s2, sg (Ne.symm e13) h.s3, sg (Ne.symm h.n14) h.s4, sg (Ne.symm e15) h.s5, h.n12, h.n14, h.n24, h.n35⟩
theorem DS.setT (h : DS S d i1 i2 i3 i4 i5 n cw dd tk st) (ds : List Deed) : DS (S.set i2 (.lst (ds.map deedD))) d i1 i2 i3 i4 i5 n cw dd ds st := by
  obtain ⟨d1, d2, d3, d4, d5, e13, e15, e23, e25, e34, e45⟩ := h.dn
  obtain ⟨l0, l1, l2, l3, l4, l5⟩ := h.lt
  exact ⟨sg d2 h.ins, sg h.n12 h.s1, ss l2, sg (Ne.symm e23) h.s3, sg (Ne.symm h.n24) h.s4, sg (Ne.symm e25) h.s5, h.n12, h.n14, h.n24, h.n35⟩
theorem DS.fr (h : DS S d i1 i2 i3 i4 i5 n cw dd tk st) {ks : List Nat} {S' : Sto} (f : Fr ks S S') (k0 : d ∉ ks) (k1 : i1 ∉ ks) (k2 : i2 ∉ ks) (k3 : i3 ∉ ks) (k4 : i4 ∉ ks) (k5 : i5 ∉ ks) : DS S' d i1 i2 i3 i4 i5 n cw dd tk st :=
  ⟨f.kp _ _ k0 h.ins, f.kp _ _ k1 h.s1, f.kp _ _ k2 h.s2, f.kp _ _ k3 h.s3, f.kp _ _ k4 h.s4, f.kp _ _ k5 h.s5, h.n12, h.n14, h.n24, h.n35⟩
theorem do_eq (h : DS S d i1 i2 i3 i4 i5 n cw dd tk st) (h5 : n ≤ 5) (ok : StOk n st) (hl1 : st.1.length ≤ 100) (hl2 : st.2.length ≤ 100) {e : Deed} (he : DeedOk n e) {st' : LB} (hs : stepM st e = some st') :
    ∃ S', t_Desk_do [.obj d, deedD e] S = .ok .non S' ∧ DS S' d i1 i2 i3 i4 i5 n cw dd tk st' ∧ Fr [i3, i4, i5] S S' ∧ S'.length = S.length := by
  have q0 := h.ins
  have q3 := h.s3
  have q4 := h.s4
  have q5 := h.s5
  obtain ⟨d1, d2, d3, d4, d5, e13, e15, e23, e25, e34, e45⟩ := h.dn
  obtain ⟨l0, l1, l2, l3, l4, l5⟩ := h.lt
  have hz : st.1.length < sizeLine := Nat.lt_of_le_of_lt hl1 (by rw [sizeLine_eq]; omega)
  have lay : ∀ w : List Int, w ∉ st.1 → ((S.set i4 (.lst (st.1.map wordD ++ [wordD w])))[d]? = some (.ins (Str.ofString "Desk") (deskF (cubeD n cw) (.obj i1) (.obj i2) (.obj i3) (.obj i4) (.obj i5)))) ∧
      setIx (.obj i5) (wordD w) (.bl true) (S.set i4 (.lst (st.1.map wordD ++ [wordD w]))) = some ((S.set i4 (.lst ((st.1 ++ [w]).map wordD))).set i5 (.dT (kv (st.1 ++ [w])))) := fun w hw => by
    refine ⟨sg d4 q0, ?_⟩
    rw [set_new (sg (Ne.symm e45) q5) hw (by omega)]
    simp
  have fr : ∀ ls, Fr [i3, i4, i5] S ((S.set i4 (.lst (ls.map wordD))).set i5 (.dT (kv ls))) := fun ls => (Fr.set S _ (by simp)).trans (Fr.set _ _ (by simp))
  cases e with
  | beg w =>
    simp only [stepM] at hs
    split at hs
    · rename_i hc
      cases hs
      obtain ⟨g1, g2⟩ := lay w (by rw [hc.1]; simp)
      refine ⟨_, ?_, h.setL (st.1 ++ [w]), fr _, by simp⟩
      simp [t_Desk_do, b_Desk_do, deedD, eqS, inS2, q0, q4, hz, g1, g2]
    · cases hs
  | turn p =>
    simp only [stepM] at hs
    cases hl : st.1.getLast? with
    | none => rw [hl] at hs; cases hs
    | some l =>
      rw [hl] at hs
      dsimp only at hs
      split at hs
      · rename_i hc
        cases hs
        have ta := turned_at_eq (ok.l l (List.mem_of_getLast? hl)) h5 he.1 he.2 S
        have la := last_word st.1 l hl
        obtain ⟨g1, g2⟩ := lay (turnW l p) hc.2
        refine ⟨_, ?_, h.setL (st.1 ++ [turnW l p]), fr _, by simp⟩
        simp [t_Desk_do, b_Desk_do, deedD, eqS, inS2, q0, q4, hz, la, ta, g1, g2]
      · cases hs
  | bar w =>
    simp only [stepM] at hs
    split at hs
    · rename_i hc
      cases hs
      refine ⟨_, ?_, h.setB (st.2 ++ [w]), Fr.set S _ (by simp), by simp⟩
      simp [t_Desk_do, b_Desk_do, deedD, eqS, inS2, q0, set_new q3 hc.1 (by omega)]
    · cases hs
  | free w =>
    simp only [stepM] at hs
    split at hs
    · rename_i hc
      cases hs
      refine ⟨_, ?_, h.setB _, Fr.set S _ (by simp), by simp⟩
      simp [t_Desk_do, b_Desk_do, deedD, eqS, inS2, q0, del_old q3 hc]
    · cases hs
end
end K63
set_option Elab.async false
set_option linter.all false
set_option maxRecDepth 100000
set_option maxHeartbeats 1000000
set_option autoImplicit false
namespace K63
open L3 PySem L2
theorem pairs_kv : ∀ ws : List (List Int), pairsD (ws.map fun w => .tup [wordD w, .bl true]) = some (kv ws)
  | [] => rfl
  | w :: r => by
    rw [List.map_cons]
    show (match keyT (wordD w), pairsD (r.map fun w => D.tup [wordD w, .bl true]) with | some ks, some l => some ((ks, D.bl true) :: l) | _, _ => none) = _
    rw [pairs_kv r, e_keyW]
    rfl
theorem merge_kv : ∀ (b a : List (List Int)), (a ++ b).Nodup → mergeD (kv a) (kv b) = kv (a ++ b)
  | [], a, _ => by rw [List.append_nil]; rfl
  | w :: b, a, h => by
    have e : w ∉ a := fun z => by
      rw [List.nodup_append] at h
      exact h.2.2 w z w List.mem_cons_self rfl
    show mergeD (putKD (kv a) (wordK w) (.bl true)) (kv b) = _
    rw [put_kv e, merge_kv b (a ++ [w]) (by simpa using h)]
    simp
def fs3 (q a b : D) : List (Str × D) := [("cube", q), ("deeds", a), ("taken", b)]
def fs4 (q a b c : D) : List (Str × D) := [("cube", q), ("deeds", a), ("taken", b), ("bars", c)]
def fs5 (q a b c d : D) : List (Str × D) := [("cube", q), ("deeds", a), ("taken", b), ("bars", c), ("line", d)]
section
variable (q a b c d e : D)
@[simp] theorem f3_cube : List.lookup (Str.ofString "cube") (fs3 q a b) = some q := id rfl
@[simp] theorem f3_clear : List.lookup (Str.ofString "clear") (fs3 q a b) = none := id rfl
@[simp] theorem f3_put (v : D) : putD (Str.ofString "bars") v (fs3 q a b) = fs4 q a b v := id rfl
@[simp] theorem f4_put (v : D) : putD (Str.ofString "line") v (fs4 q a b c) = fs5 q a b c v := id rfl
@[simp] theorem f5_put (v : D) : putD (Str.ofString "laid") v (fs5 q a b c d) = deskF q a b c d v := id rfl
@[simp] theorem f3_len : (fs3 q a b).length = 3 := id rfl
@[simp] theorem f4_len : (fs4 q a b c).length = 4 := id rfl
@[simp] theorem f5_len : (fs5 q a b c d).length = 5 := id rfl
end
theorem mb_lt (S : Sto) (E : Sto) (d : Nat) (h : d < S.length) : d < (S ++ E).length := by simp; omega
theorem clear_comp {n : Nat} {cw : List (List Int)} (h : CubeOk n cw) {fs : List (Str × D)} (hq : List.lookup (Str.ofString "cube") fs = some (cubeD n cw)) {S : Sto} {d : Nat} (h0 : S[d]? = some (.ins (Str.ofString "Desk") fs)) :
    compE (itQ (bin2 ixD (fldD "Desk" "cube" (varE 0)) (conE (.int 1)))) [1] (bName 1) yesT (tupE (consA (varE 1) (consA (conE (.bl true)) nilA))) [some (.obj d), none] S = .ok (cw.map fun w => .tup [wordD w, .bl true]) S := by
  rw [comp_same (ds := cw.map wordD) (fun _ => true) (fun x => .tup [x, .bl true]) (S1 := S)]
  · rw [List.filter_eq_self.mpr (fun _ _ => rfl), List.map_map]
    rfl
  · exact e_itQ (d := .tup (cw.map wordD)) (S1 := S) (by simp [h0, hq, cubeD, atI, ixN]) rfl
  · rw [List.length_map]; exact szS (by have := h.le; omega)
  · intro x hx
    refine ⟨_, rfl, rfl, fun _ => ?_⟩
    simp [wipeD]
theorem cube_nodup {n : Nat} {cw : List (List Int)} (h : CubeOk n cw) : cw.Nodup := h.so.imp fun {a b} hab e => by subst e; exact absurd hab (Int.lt_irrefl _)
theorem clear_eq {n : Nat} {cw : List (List Int)} (h : CubeOk n cw) {a b c1 c2 c3 : D} {S : Sto} {d : Nat} (h0 : S[d]? = some (.ins (Str.ofString "Desk") (deskF (cubeD n cw) a b c1 c2 c3))) :
    t_Desk_clear [.obj d] S = .ok .non (S.set d (.ins (Str.ofString "Desk") (deskF (cubeD n cw) a b (D.obj S.length) (D.obj (S.length + 1)) (D.obj (S.length + 2)))) ++ [MO.dT (kv cw), MO.lst [], MO.dT []]) := by
  have cc := clear_comp h (lk_cube _ a b c1 c2 c3) h0
  have hl := (List.getElem?_eq_some_iff.mp h0).1
  have dd : dictD [.lst (cw.map fun w => .tup [wordD w, .bl true])] S = .ok (.obj S.length) (S ++ [MO.dT (kv cw)]) := by
    show (match pairsD (cw.map fun w => D.tup [wordD w, .bl true]) with | some prs => R.ok (D.obj S.length) (S ++ [MO.dT (mergeD [] prs)]) | none => .bad) = _
    rw [pairs_kv]
    dsimp only
    have := merge_kv cw [] (by simpa using cube_nodup h)
    rw [show mergeD [] (kv cw) = mergeD (kv []) (kv cw) from rfl, this]
    rfl
  have g0 := get_app [MO.dT (kv cw), MO.lst [], MO.dT []] h0
  have hl2 := mb_lt S [MO.dT (kv cw), MO.lst [], MO.dT []] d hl
  simp only [List.length_append] at hl2
  have g2 : ∀ (F : MO) (E : Sto), (S.set d F ++ E)[d]? = some F := fun F E => get_app E (ss hl)
  simp [t_Desk_clear, b_Desk_clear, cc, dd, g0, g2, hl, List.set_set]
theorem clear_eq0 {n : Nat} {cw : List (List Int)} (h : CubeOk n cw) {a b : D} {S : Sto} {d : Nat} (h0 : S[d]? = some (.ins (Str.ofString "Desk") (fs3 (cubeD n cw) a b))) :
    t_Desk_clear [.obj d] S = .ok .non (S.set d (.ins (Str.ofString "Desk") (deskF (cubeD n cw) a b (D.obj S.length) (D.obj (S.length + 1)) (D.obj (S.length + 2)))) ++ [MO.dT (kv cw), MO.lst [], MO.dT []]) := by
  have cc := clear_comp h (f3_cube _ a b) h0
  have hl := (List.getElem?_eq_some_iff.mp h0).1
  have dd : dictD [.lst (cw.map fun w => .tup [wordD w, .bl true])] S = .ok (.obj S.length) (S ++ [MO.dT (kv cw)]) := by
    show (match pairsD (cw.map fun w => D.tup [wordD w, .bl true]) with | some prs => R.ok (D.obj S.length) (S ++ [MO.dT (mergeD [] prs)]) | none => .bad) = _
    rw [pairs_kv]
    dsimp only
    have := merge_kv cw [] (by simpa using cube_nodup h)
    rw [show mergeD [] (kv cw) = mergeD (kv []) (kv cw) from rfl, this]
    rfl
  have g0 := get_app [MO.dT (kv cw), MO.lst [], MO.dT []] h0
  have hl2 := mb_lt S [MO.dT (kv cw), MO.lst [], MO.dT []] d hl
  simp only [List.length_append] at hl2
  have g2 : ∀ (F : MO) (E : Sto), (S.set d F ++ E)[d]? = some F := fun F E => get_app E (ss hl)
  simp [t_Desk_clear, b_Desk_clear, cc, dd, g0, g2, hl, List.set_set]
/-- the desk behind clear -/
theorem DS.cleared {S : Sto} {d i1 i2 n : Nat} {cw : List (List Int)} {dd tk : List Deed} (l0 : d < S.length) (s1 : S[i1]? = some (.lst (dd.map deedD))) (s2 : S[i2]? = some (.lst (tk.map deedD))) (n12 : i1 ≠ i2) (n1 : d ≠ i1) (n2 : d ≠ i2) :
    DS (S.set d (.ins (Str.ofString "Desk") (deskF (cubeD n cw) (.obj i1) (.obj i2) (D.obj S.length) (D.obj (S.length + 1)) (D.obj (S.length + 2)))) ++ [MO.dT (kv cw), MO.lst [], MO.dT []]) d i1 i2 S.length (S.length + 1) (S.length + 2) n cw dd tk ([], cw) := by
  have l1 := (List.getElem?_eq_some_iff.mp s1).1
  have l2 := (List.getElem?_eq_some_iff.mp s2).1
  refine ⟨get_app _ (ss l0), get_app _ (sg (Ne.symm n1) s1), get_app _ (sg (Ne.symm n2) s2), ?_, ?_, ?_, n12, by omega, by omega, by omega⟩
  · rw [List.getElem?_append_right (by simp), List.length_set, Nat.sub_self]; rfl
  · rw [List.getElem?_append_right (by simp), List.length_set, show S.length + 1 - S.length = 1 by omega]; rfl
  · rw [List.getElem?_append_right (by simp), List.length_set, show S.length + 2 - S.length = 2 by omega]; rfl
/-! ### the deeds one after another -/
def run : LB → List Deed → Option LB
  | st, [] => some st
  | st, e :: r => match stepM st e with
    | some st' => run st' r
    | none => none
theorem run_app : ∀ (a : List Deed) (st : LB) (b : List Deed), run st (a ++ b) = match run st a with | some st' => run st' b | none => none
  | [], st, b => rfl
  | e :: r, st, b => by
    simp only [List.cons_append, run]
    cases stepM st e with
    | none => rfl
    | some st' => exact run_app r st' b
theorem run_take {st st' : LB} {ds : List Deed} (h : run st ds = some st') (i : Nat) : ∃ st1, run st (ds.take i) = some st1 ∧ run st1 (ds.drop i) = some st' := by
  have e := run_app (ds.take i) st (ds.drop i)
  rw [List.take_append_drop, h] at e
  cases h1 : run st (ds.take i) with
  | none => rw [h1] at e; cases e
  | some st1 => rw [h1] at e; exact ⟨st1, rfl, e.symm⟩
theorem step_len {st st' : LB} {e : Deed} (h : stepM st e = some st') : st'.1.length ≤ st.1.length + 1 ∧ st'.2.length ≤ st.2.length + 1 := by
  cases e with
  | beg w =>
    simp only [stepM] at h
    split at h
    · cases h; simp
    · cases h
  | turn p =>
    simp only [stepM] at h
    cases hl : st.1.getLast? with
    | none => rw [hl] at h; cases h
    | some l =>
      rw [hl] at h
      dsimp only at h
      split at h
      · cases h; simp
      · cases h
  | bar w =>
    simp only [stepM] at h
    split at h
    · cases h; simp
    · cases h
  | free w =>
    simp only [stepM] at h
    split at h
    · cases h
      refine ⟨Nat.le_succ _, ?_⟩
      have := List.length_filter_le (fun v => decide (v ≠ w)) st.2
      exact Nat.le_succ_of_le this
    · cases h
theorem run_len : ∀ {ds : List Deed} {st st' : LB}, run st ds = some st' → st'.1.length ≤ st.1.length + ds.length ∧ st'.2.length ≤ st.2.length + ds.length
  | [], st, st', h => by cases h; exact ⟨Nat.le_refl _, Nat.le_refl _⟩
  | e :: r, st, st', h => by
    unfold run at h
    cases hs : stepM st e with
    | none => rw [hs] at h; cases h
    | some s1 =>
      rw [hs] at h
      have a := step_len hs
      have b := run_len (ds := r) h
      rw [List.length_cons]
      omega
theorem run_ok {n : Nat} : ∀ {ds : List Deed} {st st' : LB}, StOk n st → (∀ e ∈ ds, DeedOk n e) → run st ds = some st' → StOk n st'
  | [], st, st', h, _, hr => by cases hr; exact h
  | e :: r, st, st', h, he, hr => by
    unfold run at hr
    cases hs : stepM st e with
    | none => rw [hs] at hr; cases hr
    | some s1 =>
      rw [hs] at hr
      exact run_ok (step_ok h (he e List.mem_cons_self) hs) (fun x hx => he x (List.mem_cons_of_mem _ hx)) hr
theorem start_ok {n : Nat} {cw : List (List Int)} (h : CubeOk n cw) : StOk n ([], cw) := ⟨(fun _ h => nomatch h), h.wd, .nil, cube_nodup h, (fun _ h => nomatch h)⟩
section
variable {S : Sto} {d i1 i2 i3 i4 i5 n : Nat} {cw : List (List Int)} {dd tk : List Deed} {st : LB}
theorem again_eq (h : DS S d i1 i2 i3 i4 i5 n cw dd tk st) (hc : CubeOk n cw) (hdd : ∀ e ∈ dd, DeedOk n e) (hlen : dd.length ≤ 60) {st' : LB} (hr : run ([], cw) dd = some st') :
    ∃ S', t_Desk_again [.obj d] S = .ok .non S' ∧ DS S' d i1 i2 S.length (S.length + 1) (S.length + 2) n cw dd tk st' ∧ Fr [d] S S' := by
  obtain ⟨d1, d2, d3, d4, d5, e13, e15, e23, e25, e34, e45⟩ := h.dn
  obtain ⟨l0, l1, l2, l3, l4, l5⟩ := h.lt
  have c1 := clear_eq hc h.ins
  have D0 := DS.cleared (n := n) (cw := cw) l0 h.s1 h.s2 h.n12 d1 d2
  generalize hS1 : S.set d (.ins (Str.ofString "Desk") (deskF (cubeD n cw) (.obj i1) (.obj i2) (D.obj S.length) (D.obj (S.length + 1)) (D.obj (S.length + 2)))) ++ [MO.dT (kv cw), MO.lst [], MO.dT []] = S1 at c1 D0
  have F0 : Fr [d] S S1 := by rw [← hS1]; exact (Fr.set S _ (by simp)).trans (Fr.app _ _ _)
  obtain ⟨δ', S', k1, k2⟩ := forN_ind (β := bName 1) (f := dropS (methD "Desk" "do" t_Desk_do 2 (varE 0) (consA (varE 1) nilA))) (k := i1) (m := dd.length) (xs := dd.map deedD)
    (fun i δ S2 => (∃ x, δ = [some (.obj d), x]) ∧ (∃ s1, run ([], cw) (dd.take i) = some s1 ∧ DS S2 d i1 i2 S.length (S.length + 1) (S.length + 2) n cw dd tk s1) ∧ Fr [d] S S2)
    (fun i δ S2 hp => by obtain ⟨_, ⟨_, _, h⟩, _⟩ := hp; exact h.s1) dd.length 0 [some (.obj d), none] S1 (by simp) ⟨⟨none, rfl⟩, ⟨([], cw), rfl, D0⟩, F0⟩ fun j x δ S2 hj hp => by
      obtain ⟨⟨y, rfl⟩, ⟨s1, r1, D1⟩, F1⟩ := hp
      rw [List.getElem?_map] at hj
      obtain ⟨e, he, rfl⟩ := Option.map_eq_some_iff.mp hj
      obtain ⟨st1, g1, g2⟩ := run_take hr (j + 1)
      have hj' := (List.getElem?_eq_some_iff.mp he).1
      rw [List.take_add_one, he, run_app, r1] at g1
      have hs : stepM s1 e = some st1 := by
        have g1 : run s1 [e] = some st1 := g1
        unfold run at g1
        cases hq : stepM s1 e with
        | none => rw [hq] at g1; cases g1
        | some s2 => rw [hq] at g1; exact g1
      have hme : ∀ x ∈ dd.take j, DeedOk n x := fun x hx => hdd x (List.mem_of_mem_take hx)
      have ok1 := run_ok (start_ok hc) hme r1
      have ln := run_len r1
      have lt : (dd.take j).length ≤ 60 := Nat.le_trans (List.length_take_le' _ _) hlen
      have hle := hc.le
      obtain ⟨S3, a1, a2, a3, a4⟩ := do_eq D1 hc.n5 ok1 (by simp at ln ⊢; omega) (by simp at ln ⊢; omega) (hdd e (List.mem_of_getElem? he)) hs
      refine ⟨_, [some (.obj d), some (deedD e)], S3, rfl, .inl ?_, ⟨_, rfl⟩, ⟨st1, ?_, a2⟩, ?_⟩
      · simp [D1.ins, a1]
      · rw [List.take_add_one, he, run_app, r1]
        show run s1 [e] = _
        unfold run
        rw [hs]; rfl
      · refine ⟨Nat.le_trans F1.len a3.len, fun i x hi q => ?_⟩
        have hil := (List.getElem?_eq_some_iff.mp q).1
        exact a3.kp i x (by simp; omega) (F1.kp i x hi q)
  obtain ⟨⟨y, rfl⟩, ⟨s1, r1, D1⟩, F1⟩ := k2
  rw [List.length_map, List.take_length, hr] at r1
  cases r1
  refine ⟨S', ?_, D1, F1⟩
  have it : itQ (fldD "Desk" "deeds" (varE 0)) [some (.obj d), none] S1 = .ok (.mutl i1 dd.length) S1 := by
    refine e_itQ (d := .obj i1) (S1 := S1) (by simp [D0.ins]) ?_
    show (match S1[i1]? with | some (.lst xs) => some (ItS.mutl i1 xs.length) | _ => none) = _
    rw [D0.s1]
    simp
  have ff := forS_at (β := bName 1) (f := dropS (methD "Desk" "do" t_Desk_do 2 (varE 0) (consA (varE 1) nilA))) it
  have ff : forS (itQ (fldD "Desk" "deeds" (varE 0))) (bName 1) (dropS (methD "Desk" "do" t_Desk_do 2 (varE 0) (consA (varE 1) nilA))) [some (.obj d), none] S1 = .nx [some (.obj d), y] S' := ff.trans k1
  simp [t_Desk_again, b_Desk_again, h.ins, c1, ff]
end
end K63
set_option Elab.async false
set_option linter.all false
set_option maxRecDepth 100000
set_option maxHeartbeats 1000000
set_option autoImplicit false
namespace K63
open L3 PySem L2
theorem pyL_deeds : ∀ ds : List Deed, ∃ l, D.pyL (ds.map deedD) = some l ∧ PyData.canLayAll0 l = true ∧ PyData.depthAll l ≤ 2
  | [] => ⟨[], rfl, rfl, Nat.zero_le _⟩
  | e :: r => by
    obtain ⟨l, h1, h2, h3⟩ := pyL_deeds r
    have he : ∃ p, D.py (deedD e) = some p ∧ p.canLay0 = true ∧ p.depth ≤ 2 := by
      have sw : ∀ (cs : List Nat) (w : List Int), cs.all (fun c => decide (c < 1114112)) = true → ∃ p, D.py (.tup [.str cs, wordD w]) = some p ∧ p.canLay0 = true ∧ p.depth ≤ 2 := fun cs w hc => by
        obtain ⟨k1, k2⟩ := lay_ints w
        refine ⟨.tuple [.str ⟨cs.toArray⟩, wordP w], ?_, ?_, ?_⟩
        · simp [D.py, D.pyL, py_word]
        · simp [PyData.canLay0, PyData.canLayAll0, okC hc, wordP, k1]
        · simp [PyData.depth, PyData.depthAll, wordP, k2]
      cases e with
      | beg w => exact sw _ w (by decide)
      | bar w => exact sw _ w (by decide)
      | free w => exact sw _ w (by decide)
      | turn p =>
        refine ⟨.tuple [.str ⟨[116, 117, 114, 110].toArray⟩, .int (p : Nat)], ?_, ?_, ?_⟩
        · simp [deedD, D.py, D.pyL]
        · simp [PyData.canLay0, PyData.canLayAll0, okC (a := [116, 117, 114, 110]) (by decide)]
        · simp [PyData.depth, PyData.depthAll]
    obtain ⟨p, g1, g2, g3⟩ := he
    refine ⟨p :: l, ?_, ?_, ?_⟩
    · rw [List.map_cons]
      show (match D.py (deedD e), D.pyL (r.map deedD) with | some a, some l => some (a :: l) | _, _ => none) = _
      rw [g1, h1]
    · show (PyData.canLay0 p && PyData.canLayAll0 l) = true
      rw [g2, h2]; rfl
    · show max (PyData.depth p) (PyData.depthAll l) ≤ 2
      omega
theorem layL_deeds (ds : List Deed) : layL (ds.map deedD) := by
  obtain ⟨l, h1, h2, h3⟩ := pyL_deeds ds
  refine ⟨l, h1, ?_⟩
  show (PyData.canLayAll0 l && decide (PyData.depthAll l + 1 ≤ 64)) = true
  rw [h2]
  simp only [Bool.true_and, decide_eq_true_eq]
  omega
section
variable {S : Sto} {d i1 i2 i3 i4 i5 n : Nat} {cw : List (List Int)} {dd tk : List Deed} {st : LB}
/-- a desk in order: its deeds lead to what it holds -/
structure Dk (S : Sto) (d i1 i2 i3 i4 i5 n : Nat) (cw : List (List Int)) (dd tk : List Deed) (st : LB) : Prop where
  ds : DS S d i1 i2 i3 i4 i5 n cw dd tk st
  cu : CubeOk n cw
  ok : ∀ e ∈ dd, DeedOk n e
  ru : run ([], cw) dd = some st
  le : dd.length ≤ 60
theorem Dk.so (h : Dk S d i1 i2 i3 i4 i5 n cw dd tk st) : StOk n st := run_ok (start_ok h.cu) h.ok h.ru
theorem Dk.len (h : Dk S d i1 i2 i3 i4 i5 n cw dd tk st) : st.1.length ≤ 60 ∧ st.2.length ≤ 64 := by
  have a := run_len h.ru
  have b := h.le
  have c := h.cu.le
  simp at a
  omega
theorem run_snoc {st0 st st' : LB} {dd : List Deed} {e : Deed} (h : run st0 dd = some st) (hs : stepM st e = some st') : run st0 (dd ++ [e]) = some st' := by
  rw [run_app, h]
  simp only [run, hs]
theorem done_eq (h : Dk S d i1 i2 i3 i4 i5 n cw dd tk st) {e : Deed} (he : DeedOk n e) {st' : LB} (hs : stepM st e = some st') :
    ∃ S', t_Desk_done [.obj d, deedD e] S = .ok .non S' ∧ DS S' d i1 S.length i3 i4 i5 n cw (dd ++ [e]) [] st' ∧ Fr [d, i1, i3, i4, i5] S S' := by
  have hc := can_eq h.ds h.cu.n5 h.so he
  have hl := h.len
  have hle := h.le
  obtain ⟨S1, a1, D1, F1, L1⟩ := do_eq h.ds h.cu.n5 h.so (by omega) (by omega) he hs
  rw [hs] at hc
  have q0 := D1.ins
  have q1 := D1.s1
  have D2 := D1.setD (dd ++ [e])
  have q2 := D2.ins
  obtain ⟨d1, d2, d3, d4, d5, e13, e15, e23, e25, e34, e45⟩ := D1.dn
  obtain ⟨l0, l1, l2, l3, l4, l5⟩ := D1.lt
  have hz : dd.length < sizeLine := Nat.lt_of_le_of_lt hle (by rw [sizeLine_eq]; omega)
  have hne : ¬ ((dd.length : Nat) : Int) = 2000 := by omega
  have em : (dd ++ [e]).map deedD = dd.map deedD ++ [deedD e] := by simp
  rw [em] at D2 q2
  have g0 := get_app [MO.lst []] q2
  have hlen : (S1.set i1 (.lst (dd.map deedD ++ [deedD e]))).length = S.length := by rw [List.length_set, L1]
  refine ⟨((S1.set i1 (.lst (dd.map deedD ++ [deedD e]))) ++ [MO.lst []]).set d (.ins (Str.ofString "Desk") (deskF (cubeD n cw) (.obj i1) (.obj S.length) (.obj i3) (.obj i4) (.obj i5))), ?_, ?_, ?_⟩
  · have c1 := h.ds.ins
    have c2 := h.ds.s1
    simp [t_Desk_done, b_Desk_done, c1, c2, hc, a1, q0, q1, hz, hne, q2, g0, L1]
  · obtain ⟨m0, m1, m2, m3, m4, m5⟩ := D2.lt
    have hS : S.length = (S1.set i1 (.lst (dd.map deedD ++ [deedD e]))).length := hlen.symm
    refine ⟨ss (by simp; omega), sg (Ne.symm d1) (get_app _ D2.s1), sg ?_ ?_, sg (Ne.symm d3) (get_app _ D2.s3), sg (Ne.symm d4) (get_app _ D2.s4), sg (Ne.symm d5) (get_app _ D2.s5), ?_, D1.n14, ?_, D1.n35⟩
    · rw [hS]; exact Nat.ne_of_gt m0
    · rw [List.getElem?_append_right (by rw [hS]; exact Nat.le_refl _), hS, Nat.sub_self]; rfl
    · rw [hS]; exact Nat.ne_of_lt m1
    · rw [hS]; exact Nat.ne_of_gt m4
  · exact (((F1.mono (by simp)).trans (Fr.set S1 _ (by simp))).trans (Fr.app _ _ _)).trans (Fr.set _ _ (by simp))
theorem need_word_eq (h : Dk S d i1 i2 i3 i4 i5 n cw dd tk st) {w : List Int} (hw : Wd n w) : t_Desk_need_word [.obj d, wordD w] S = .ok .non S := by
  have e1 := fits_word_eq hw h.cu.n1 h.cu.n5 S
  have e2 : lenQ (wordD w) S = some w.length := by show some (w.map D.int).length = _; rw [List.length_map]
  have c1 := h.ds.ins
  simp [t_Desk_need_word, b_Desk_need_word, e1, e2, c1, cubeD, atI, ixN, hw.1]
theorem begin_eq (h : Dk S d i1 i2 i3 i4 i5 n cw dd tk st) {w : List Int} (hw : Wd n w) {st' : LB} (hs : stepM st (.beg w) = some st') :
    ∃ S', t_Desk_begin [.obj d, wordD w] S = .ok .non S' ∧ DS S' d i1 S.length i3 i4 i5 n cw (dd ++ [.beg w]) [] st' ∧ Fr [d, i1, i3, i4, i5] S S' := by
  obtain ⟨S1, a1, D1, F1⟩ := done_eq h (e := .beg w) hw hs
  have c1 := h.ds.ins
  have a1' : t_Desk_done [.obj d, .tup [.str [98, 101, 103, 105, 110], wordD w]] S = .ok .non S1 := a1
  exact ⟨S1, by simp [t_Desk_begin, b_Desk_begin, c1, need_word_eq h hw, a1'], D1, F1⟩
theorem bar_eq (h : Dk S d i1 i2 i3 i4 i5 n cw dd tk st) {w : List Int} (hw : Wd n w) {st' : LB} (hs : stepM st (.bar w) = some st') :
    ∃ S', t_Desk_bar [.obj d, wordD w] S = .ok .non S' ∧ DS S' d i1 S.length i3 i4 i5 n cw (dd ++ [.bar w]) [] st' ∧ Fr [d, i1, i3, i4, i5] S S' := by
  obtain ⟨S1, a1, D1, F1⟩ := done_eq h (e := .bar w) hw hs
  have c1 := h.ds.ins
  have a1' : t_Desk_done [.obj d, .tup [.str [98, 97, 114], wordD w]] S = .ok .non S1 := a1
  exact ⟨S1, by simp [t_Desk_bar, b_Desk_bar, c1, need_word_eq h hw, a1'], D1, F1⟩
theorem free_eq (h : Dk S d i1 i2 i3 i4 i5 n cw dd tk st) {w : List Int} (hw : Wd n w) {st' : LB} (hs : stepM st (.free w) = some st') :
    ∃ S', t_Desk_free [.obj d, wordD w] S = .ok .non S' ∧ DS S' d i1 S.length i3 i4 i5 n cw (dd ++ [.free w]) [] st' ∧ Fr [d, i1, i3, i4, i5] S S' := by
  obtain ⟨S1, a1, D1, F1⟩ := done_eq h (e := .free w) hw hs
  have c1 := h.ds.ins
  have a1' : t_Desk_done [.obj d, .tup [.str [102, 114, 101, 101], wordD w]] S = .ok .non S1 := a1
  exact ⟨S1, by simp [t_Desk_free, b_Desk_free, c1, need_word_eq h hw, a1'], D1, F1⟩
theorem turn_last {st st' : LB} {p : Nat} (hs : stepM st (.turn p) = some st') : ∃ w, st'.1.getLast? = some w := by
  simp only [stepM] at hs
  cases hl : st.1.getLast? with
  | none => rw [hl] at hs; cases hs
  | some l =>
    rw [hl] at hs
    dsimp only at hs
    split at hs
    · cases hs; exact ⟨turnW l p, by simp⟩
    · cases hs
theorem turn_eq (h : Dk S d i1 i2 i3 i4 i5 n cw dd tk st) {p : Nat} (hp : 1 ≤ p ∧ p ≤ n) {st' : LB} (hs : stepM st (.turn p) = some st') {w : List Int} (hw : st'.1.getLast? = some w) :
    ∃ S', t_Desk_turn [.obj d, .int (p : Nat)] S = .ok (wordD w) S' ∧ DS S' d i1 S.length i3 i4 i5 n cw (dd ++ [.turn p]) [] st' ∧ Fr [d, i1, i3, i4, i5] S S' := by
  obtain ⟨S1, a1, D1, F1⟩ := done_eq h (e := .turn p) hp hs
  have c1 := h.ds.ins
  have a1' : t_Desk_done [.obj d, .tup [.str [116, 117, 114, 110], .int (p : Nat)]] S = .ok .non S1 := a1
  have w1 := whole_eq (p : Int) 1 (n : Int) S
  have h1' : (1 : Int) ≤ (p : Int) := by omega
  have h2' : (p : Int) ≤ (n : Int) := by omega
  simp only [h1', h2', decide_true, Bool.and_self] at w1
  have la := last_word st'.1 w hw
  have c0 : L2.atI [D.int (n : Nat), .tup (cw.map wordD)] 0 = some (.int (n : Nat)) := rfl
  exact ⟨S1, by simp [t_Desk_turn, b_Desk_turn, c1, cubeD, c0, w1, a1', D1.ins, D1.s4, la], D1, F1⟩
end
end K63
set_option Elab.async false
set_option linter.all false
set_option maxRecDepth 100000
set_option maxHeartbeats 1000000
set_option autoImplicit false
namespace K63
open L3 PySem L2
theorem last_snoc {α : Type} (xs : List α) (x : α) : L2.atI (xs ++ [x]) (-1) = some x := by
  unfold L2.atI ixN
  rw [if_neg (by decide), if_pos (by simp; omega)]
  show (xs ++ [x])[(-1 + ((xs ++ [x]).length : Int)).toNat]? = _
  rw [List.length_append, List.length_singleton, show (-1 + ((xs.length + 1 : Nat) : Int)).toNat = xs.length by omega]
  simp
section
variable {S : Sto} {d i1 i2 i3 i4 i5 n : Nat} {cw : List (List Int)} {dd tk : List Deed} {st : LB}
theorem undo_eq {e : Deed} (h : Dk S d i1 i2 i3 i4 i5 n cw (dd ++ [e]) tk st) (htk : tk.length ≤ 100) : ∃ st' S', run ([], cw) dd = some st' ∧ t_Desk_undo [.obj d] S = .ok (deedD e) S' ∧ DS S' d i1 i2 S.length (S.length + 1) (S.length + 2) n cw dd (tk ++ [e]) st' ∧ Fr [d, i1, i2] S S' := by
  have q0 := h.ds.ins
  have q1 := h.ds.s1
  have q2 := h.ds.s2
  obtain ⟨d1, d2, d3, d4, d5, e13, e15, e23, e25, e34, e45⟩ := h.ds.dn
  obtain ⟨l0, l1, l2, l3, l4, l5⟩ := h.ds.lt
  have n12 := h.ds.n12
  have hru := h.ru
  rw [run_app] at hru
  have hle := h.le
  rw [List.length_append, List.length_singleton] at hle
  have hz : tk.length < sizeLine := Nat.lt_of_le_of_lt htk (by rw [sizeLine_eq]; omega)
  cases hr : run ([], cw) dd with
  | none => rw [hr] at hru; cases hru
  | some st' =>
    have D1 := (h.ds.setD dd).setT (tk ++ [e])
    have em : (tk ++ [e]).map deedD = tk.map deedD ++ [deedD e] := by simp
    have em2 : (dd ++ [e]).map deedD = dd.map deedD ++ [deedD e] := by simp
    obtain ⟨S', a1, D2, F2⟩ := again_eq D1 h.cu (fun x hx => h.ok x (by simp [hx])) (by omega) hr
    have hS : ((S.set i1 (.lst (dd.map deedD))).set i2 (.lst ((tk ++ [e]).map deedD))).length = S.length := by simp
    rw [hS] at D2
    refine ⟨st', S', rfl, ?_, D2, ?_⟩
    · have nn := eq_nil (x := .obj i1) (S := S) (xs := (dd ++ [e]).map deedD) (by simp [q1]) (layL_deeds _)
      have c0 := D1.ins
      have r2 := D2.ins
      have t2 := D2.s2
      rw [em] at a1 c0 t2
      rw [em2] at q1
      have g1 : ∀ m, (S.set i1 m)[i2]? = some (.lst (tk.map deedD)) := fun m => sg (Ne.symm n12) q2
      have la := last_snoc (tk.map deedD) (deedD e)
      have lb : (dd.map deedD ++ [deedD e])[dd.length]? = some (deedD e) := by
        rw [List.getElem?_append_right (by simp)]; simp
      simp [t_Desk_undo, b_Desk_undo, q0, q1, q2, nn, g1, hz, a1, c0, r2, t2, la, lb]
    · exact (((Fr.set S _ (by simp)).trans (Fr.set _ _ (by simp))).trans (F2.mono (by simp)))
theorem redo_eq {e : Deed} (h : Dk S d i1 i2 i3 i4 i5 n cw dd (tk ++ [e]) st) (he : DeedOk n e) {st' : LB} (hs : stepM st e = some st') : ∃ S', t_Desk_redo [.obj d] S = .ok (deedD e) S' ∧ DS S' d i1 i2 i3 i4 i5 n cw (dd ++ [e]) tk st' ∧ Fr [d, i1, i2, i3, i4, i5] S S' := by
  have q0 := h.ds.ins
  have q1 := h.ds.s1
  have q2 := h.ds.s2
  have hl := h.len
  have hle := h.le
  obtain ⟨S1, a1, D1, F1, L1⟩ := do_eq h.ds h.cu.n5 h.so (by omega) (by omega) he hs
  have em : (tk ++ [e]).map deedD = tk.map deedD ++ [deedD e] := by simp
  have em2 : (dd ++ [e]).map deedD = dd.map deedD ++ [deedD e] := by simp
  have D2 := (D1.setT tk).setD (dd ++ [e])
  have n12 := h.ds.n12
  have hz : dd.length < sizeLine := Nat.lt_of_le_of_lt hle (by rw [sizeLine_eq]; omega)
  refine ⟨_, ?_, D2, ((F1.mono (by simp)).trans (Fr.set S1 _ (by simp))).trans (Fr.set _ _ (by simp))⟩
  have nn := eq_nil (x := .obj i2) (S := S) (xs := (tk ++ [e]).map deedD) (by simp [q2]) (layL_deeds _)
  have c0 := D1.ins
  have c1 := D1.s1
  have c2 := D1.s2
  have r1 := D2.ins
  have t1 := D2.s1
  rw [em] at q2 c2
  rw [em2] at r1 t1 ⊢
  have g1 : ∀ m, (S1.set i2 m)[i1]? = some (.lst (dd.map deedD)) := fun m => sg n12 c1
  have la := last_snoc (tk.map deedD) (deedD e)
  have la2 := last_snoc (dd.map deedD) (deedD e)
  have lb : (tk.map deedD ++ [deedD e])[tk.length]? = some (deedD e) := by
    rw [List.getElem?_append_right (by simp)]; simp
  simp [t_Desk_redo, b_Desk_redo, q0, q1, q2, nn, la, a1, c0, c1, c2, g1, hz, lb, r1, t1, la2]
/-! ### what a desk tells -/
theorem words_eq (h : Dk S d i1 i2 i3 i4 i5 n cw dd tk st) : t_Desk_words [.obj d] S = .ok (.tup (st.1.map wordD)) S := by
  simp [t_Desk_words, b_Desk_words, h.ds.ins, h.ds.s4]
theorem log_eq (h : Dk S d i1 i2 i3 i4 i5 n cw dd tk st) : t_Desk_log [.obj d] S = .ok (.tup (dd.map deedD)) S := by
  simp [t_Desk_log, b_Desk_log, h.ds.ins, h.ds.s1]
theorem barred_eq (h : Dk S d i1 i2 i3 i4 i5 n cw dd tk st) (hb : st.2.length < 64) : t_Desk_barred [.obj d] S = .ok (.tup ((sortC 2 st.2).map wordD)) S := by
  have so : sortA 2 [.obj i3] S = .ok ((sortC 2 st.2).map wordD) S := by
    have e1 : sortTD 2 [.obj i3] S = .bad := by
      unfold sortTD
      simp [h.ds.s3]
    have e2 : sortDD 2 [.obj i3] S = .ok ((sortC 2 st.2).map wordD) S := by
      unfold sortDD
      simp only [h.ds.s3, keys_kv, keysW_map]
      rw [if_pos ⟨hb, okWords_wd h.cu.n1 h.so.b⟩]
    unfold sortA
    rw [e1, e2]
    rfl
  simp [t_Desk_barred, b_Desk_barred, h.ds.ins, so]
/-- the free words -/
def leftW (n : Nat) (st : LB) : List (List Int) := (allW n).filter fun w => decide (w ∉ st.2) && decide (w ∉ st.1)
theorem filter_map_word (b : D → Bool) (c : List Int → Bool) (h : ∀ w, b (wordD w) = c w) (ws : List (List Int)) : ((ws.map wordD).filter b).map id = (ws.filter c).map wordD := by
  rw [List.map_id, List.filter_map]
  congr 1
  apply List.filter_congr
  intro w _
  exact h w
theorem allW_len : ∀ n, (allW n).length = 2 ^ n
  | 0 => rfl
  | n + 1 => by
    unfold allW
    rw [List.length_flatMap]
    have : ((allW n).map fun w => [w ++ [0], w ++ [1]].length) = (allW n).map fun _ => 2 := rfl
    rw [this, List.map_const', List.sum_replicate_nat, allW_len n]
    omega
theorem allW_le {n : Nat} (h : n ≤ 5) : (allW n).length ≤ 32 := by
  rw [allW_len]
  calc 2 ^ n ≤ 2 ^ 5 := Nat.pow_le_pow_right (by decide) h
    _ = 32 := by decide
def wordOf : D → List Int
  | .tup ds => (intsOf ds).getD []
  | _ => []
@[simp] theorem wordOf_word (w : List Int) : wordOf (wordD w) = w := by
  show (intsOf (w.map .int)).getD [] = w
  rw [intsOf_map]; rfl
theorem left_eq (h : Dk S d i1 i2 i3 i4 i5 n cw dd tk st) : t_Desk_left [.obj d] S = .ok (.tup ((leftW n st).map wordD)) S := by
  have q0 := h.ds.ins
  have aw := all_words_eq h.cu.n1 h.cu.n5 S
  have c0 : L2.atI [D.int (n : Nat), .tup (cw.map wordD)] 0 = some (.int (n : Nat)) := rfl
  have b1 : ∀ w, inA true (wordD w) (.obj i3) S = .ok (.bl (!decide (w ∈ st.2))) S := fun w => by rw [in_dict S true h.ds.s3 (e_keyW w), get_kv]; rfl
  have l1 : ∀ w, inA true (wordD w) (.obj i5) S = .ok (.bl (!decide (w ∈ st.1))) S := fun w => by rw [in_dict S true h.ds.s5 (e_keyW w), get_kv]; rfl
  have cc : compE (itQ (callD t_all_words 1 (consA (bin2 ixD (fldD "Desk" "cube" (varE 0)) (conE (.int 0))) nilA))) [1] (bName 1) (andT (tst (bin2 (inA true) (varE 1) (fldD "Desk" "bars" (varE 0)))) (tst (bin2 (inA true) (varE 1) (fldD "Desk" "laid" (varE 0))))) (varE 1) [some (.obj d), none] S = .ok ((leftW n st).map wordD) S := by
    rw [comp_same (ds := (allW n).map wordD) (fun x => decide (wordOf x ∉ st.2) && decide (wordOf x ∉ st.1)) id (S1 := S)]
    · rw [filter_map_word _ (fun w => decide (w ∉ st.2) && decide (w ∉ st.1)) (fun w => by simp)]
      rfl
    · exact e_itQ (d := .lst ((allW n).map wordD)) (S1 := S) (by simp [q0, cubeD, c0, aw]) rfl
    · rw [List.length_map]; exact szS (by have := allW_le h.cu.n5; omega)
    · intro x hx
      obtain ⟨w, hw, rfl⟩ := List.mem_map.mp hx
      refine ⟨_, rfl, ?_, fun _ => ?_⟩
      · by_cases hb : w ∈ st.2 <;> simp [wipeD, q0, b1, l1, hb]
      · simp [wipeD]
  simp [t_Desk_left, b_Desk_left, cc]
/-- the places that can be turned -/
def ablePs (n : Nat) (st : LB) : List Nat := ((List.range n).map (· + 1)).filter fun p => (stepM st (.turn p)).isSome
theorem able_eq (h : Dk S d i1 i2 i3 i4 i5 n cw dd tk st) : t_Desk_able [.obj d] S = .ok (.tup ((ablePs n st).map fun p => D.int (p : Nat))) S := by
  have q0 := h.ds.ins
  have c0 : L2.atI [D.int (n : Nat), .tup (cw.map wordD)] 0 = some (.int (n : Nat)) := rfl
  have hn := h.cu.n5
  have rg : rngD 1 n = ((List.range n).map (· + 1)).map fun p : Nat => D.int (p : Nat) := by
    unfold rngD
    rw [List.map_map]
    apply List.map_congr_left
    intro i _
    show D.int (1 + (i : Nat)) = D.int ((i + 1 : Nat) : Int)
    congr 1; omega
  have cc : compE (itR2 (consA (conE (.int 1)) (consA (bin2 addA (bin2 ixD (fldD "Desk" "cube" (varE 0)) (conE (.int 0))) (conE (.int 1))) nilA))) [1] (bName 1) (tst (methD "Desk" "can" t_Desk_can 2 (varE 0) (consA (tupE (consA (conE (.str [116, 117, 114, 110])) (consA (varE 1) nilA))) nilA))) (varE 1) [some (.obj d), none] S = .ok ((ablePs n st).map fun p => D.int (p : Nat)) S := by
    rw [comp_same (ds := rngD 1 n) (fun x => match x with | .int i => (stepM st (.turn i.toNat)).isSome | _ => false) id (S1 := S)]
    · congr 1
      rw [List.map_id, rg, List.filter_map]
      rfl
    · have nn : ((n : Int) + 1 - 1).toNat = n := by rw [Int.add_sub_cancel]; rfl
      rw [e_itR2 (i := 1) (j := (n : Int) + 1) (S1 := S) (h := by simp [q0, cubeD, c0]) (hj := by omega), nn]
    · simp only [rngD, List.length_map, List.length_range]; exact szS (by omega)
    · intro x hx
      rw [rg] at hx
      obtain ⟨p, hp, rfl⟩ := List.mem_map.mp hx
      obtain ⟨i, hi, rfl⟩ := List.mem_map.mp hp
      have hi' := List.mem_range.mp hi
      have ca := can_eq h.ds h.cu.n5 h.so (e := .turn (i + 1)) ⟨by omega, by omega⟩
      have ca' : t_Desk_can [.obj d, .tup [.str [116, 117, 114, 110], .int ((i + 1 : Nat) : Int)]] S = .ok (.bl (stepM st (.turn (i + 1))).isSome) S := ca
      refine ⟨_, rfl, ?_, fun _ => ?_⟩
      · show tst _ _ S = .ok (stepM st (.turn ((i + 1 : Nat) : Int).toNat)).isSome S
        rw [Int.toNat_natCast]
        simp only [Int.natCast_add] at ca' ⊢
        simp [wipeD, q0]
        simp at ca'
        rw [ca']
        rfl
      · simp [wipeD]
  simp [t_Desk_able, b_Desk_able, cc]
end
end K63
set_option Elab.async false
set_option linter.all false
set_option maxRecDepth 100000
set_option maxHeartbeats 1000000
set_option autoImplicit false
namespace K63
open L3 PySem L2
theorem plain_ints : ∀ w : List Int, PyData.plainAll (w.map .int) = true
  | [] => rfl
  | i :: r => by
    show (PyData.plain (.int i) && PyData.plainAll (r.map .int)) = true
    rw [plain_ints r]; rfl
theorem plain_words : ∀ ws : List (List Int), PyData.plainAll (ws.map wordP) = true
  | [] => rfl
  | w :: r => by
    show (PyData.plainAll (w.map .int) && PyData.plainAll (r.map wordP)) = true
    rw [plain_words r, plain_ints]; rfl
theorem depth_word (w : List Int) : (wordP w).depth ≤ 60 := by
  show PyData.depthAll (w.map .int) + 1 ≤ 60
  rw [(lay_ints w).2]; omega
theorem place_words (w : List Int) : ∀ ws : List (List Int), w ∈ ws → ws.Nodup → ∃ j, SeqAt.dataPlace (ws.map wordP) (wordP w) = some j ∧ ws.eraseIdx j = ws.filter fun v => decide (v ≠ w)
  | [], h, _ => nomatch h
  | v :: r, h, nd => by
    unfold SeqAt.dataPlace
    rw [List.map_cons, List.findIdx?_cons, eqv_word]
    have nd' := List.nodup_cons.mp nd
    by_cases e : v = w
    · subst e
      refine ⟨0, by simp, ?_⟩
      rw [List.eraseIdx_cons_zero, List.filter_cons_of_neg (by simp)]
      symm
      apply List.filter_eq_self.mpr
      intro a ha
      exact decide_eq_true fun z => nd'.1 (z ▸ ha)
    · have hr : w ∈ r := by rcases List.mem_cons.mp h with z | z; exact absurd z.symm e; exact z
      obtain ⟨j, h1, h2⟩ := place_words w r hr nd'.2
      unfold SeqAt.dataPlace at h1
      refine ⟨j + 1, by simp [e, h1], ?_⟩
      rw [List.eraseIdx_cons_succ, h2, List.filter_cons_of_pos (by simpa using e)]
theorem erase_map {α β : Type} (f : α → β) : ∀ (l : List α) (j : Nat), (l.map f).eraseIdx j = (l.eraseIdx j).map f
  | [], _ => rfl
  | _ :: _, 0 => rfl
  | a :: l, j + 1 => by
    show f a :: (l.map f).eraseIdx j = f a :: (l.eraseIdx j).map f
    rw [erase_map f l j]
theorem rem_word {k : Nat} {S : Sto} {w : List Int} {ws : List (List Int)} (hS : S[k]? = some (.lst (ws.map wordD))) (h : w ∈ ws) (nd : ws.Nodup) : remD (.obj k) [wordD w] S = .ok .non (S.set k (.lst ((ws.filter fun v => decide (v ≠ w)).map wordD))) := by
  obtain ⟨j, h1, h2⟩ := place_words w ws h nd
  unfold remD
  have e : lkOf (.obj k) S = some (k, ws.map wordD) := by unfold lkOf; dsimp only; rw [hS]
  rw [e]
  dsimp only
  rw [pyL_words, py_word]
  dsimp only
  rw [h1]
  dsimp only
  rw [if_pos ⟨plain_words ws, by show PyData.plainAll (w.map .int) = true; exact plain_ints w, depth_word w⟩, erase_map, h2]
def atB : BM := bTup (bCons (bName 4) (bCons (bName 5) bNil))
def atF : SM := (ifS (andT (tst (bin2 eqD (varE 4) (conE (.str [98, 101, 103, 105, 110])))) (andT (tst (bin2 eqD (varE 2) (frzE (lstE nilA)))) (tst (bin2 (inA true) (varE 5) (varE 3))))) (dropS (mthD appD (varE 2) (consA (varE 5) nilA))) (ifS (andT (tst (bin2 eqD (varE 4) (conE (.str [116, 117, 114, 110])))) (andT (tst (bin2 neD (varE 2) (frzE (lstE nilA)))) (tst (bin2 (inA true) (callD t__law_turn 2 (consA (bin2 ixD (varE 2) (un1 negI (conE (.int 1)))) (consA (varE 5) nilA))) (bin2 addA (varE 3) (varE 2)))))) (dropS (mthD appD (varE 2) (consA (callD t__law_turn 2 (consA (bin2 ixD (varE 2) (un1 negI (conE (.int 1)))) (consA (varE 5) nilA))) nilA))) (ifS (andT (tst (bin2 eqD (varE 4) (conE (.str [98, 97, 114])))) (tst (bin2 (inA true) (varE 5) (bin2 addA (varE 3) (varE 2))))) (dropS (mthD appD (varE 3) (consA (varE 5) nilA))) (ifS (andT (tst (bin2 eqD (varE 4) (conE (.str [102, 114, 101, 101])))) (tst (bin2 (inA false) (varE 5) (varE 3)))) (dropS (mthD remD (varE 3) (consA (varE 5) nilA))) (retS (conE .non))))))
theorem law_at_def : t__law_at = fnD 6 (seqS (parS 2 3 (consA (newE (lstE nilA)) (consA (newE (callLM listD (consA (bin2 ixD (varE 0) (conE (.int 1))) nilA))) nilA))) (seqS (forS (itQ (varE 1)) atB atF) (retS (tupE (consA (varE 2) (consA (varE 3) nilA)))))) := rfl
theorem at_step {S : Sto} {k2 k3 n : Nat} {st st' : LB} {e : Deed} (hk : k2 ≠ k3) (h2 : S[k2]? = some (.lst (st.1.map wordD))) (h3 : S[k3]? = some (.lst (st.2.map wordD))) (ok : StOk n st) (h5 : n ≤ 5) (hl : st.1.length ≤ 100 ∧ st.2.length ≤ 100) (he : DeedOk n e) (hs : stepM st e = some st') (q x : D) (a b : Option D) :
    ∃ u v S', atB (deedD e) [some q, some x, some (.obj k2), some (.obj k3), a, b] = some [some q, some x, some (.obj k2), some (.obj k3), some u, some v] ∧ atF [some q, some x, some (.obj k2), some (.obj k3), some u, some v] S = .nx [some q, some x, some (.obj k2), some (.obj k3), some u, some v] S' ∧
      S'[k2]? = some (.lst (st'.1.map wordD)) ∧ S'[k3]? = some (.lst (st'.2.map wordD)) ∧ Fr [k2, k3] S S' := by
  have L2' : k2 < S.length := (List.getElem?_eq_some_iff.mp h2).1
  have L3' : k3 < S.length := (List.getElem?_eq_some_iff.mp h3).1
  have b1 : ∀ w, inA true (wordD w) (.obj k3) S = .ok (.bl (!decide (w ∈ st.2))) S := fun w => in_words (ws := st.2) true (by simp [h3])
  have b0 : ∀ w, inA false (wordD w) (.obj k3) S = .ok (.bl (decide (w ∈ st.2))) S := fun w => in_words (ws := st.2) false (by simp [h3])
  have bl : ∀ w, inA true (wordD w) (.lst (st.2.map wordD ++ st.1.map wordD)) S = .ok (.bl (!decide (w ∈ st.2 ++ st.1))) S := fun w => in_words (ws := st.2 ++ st.1) true (by simp)
  have hx : asL (.obj k2) S = some (st.1.map wordD) := by simp [h2]
  have en := eq_nil hx (layL_words st.1)
  have nn := ne_nil hx (layL_words st.1)
  have z1 : st.1.length < sizeLine := Nat.lt_of_le_of_lt hl.1 (by rw [sizeLine_eq]; omega)
  have z2 : st.2.length < sizeLine := Nat.lt_of_le_of_lt hl.2 (by rw [sizeLine_eq]; omega)
  have z3 : st.2.length + st.1.length ≤ sizeLine := Nat.le_trans (Nat.add_le_add hl.2 hl.1) (by rw [sizeLine_eq]; omega)
  have z0 : 0 < sizeLine := by rw [sizeLine_eq]; omega
  cases e with
  | beg w =>
    simp only [stepM] at hs
    split at hs
    · rename_i hc
      cases hs
      refine ⟨_, _, S.set k2 (.lst (st.1.map wordD ++ [wordD w])), rfl, ?_, ?_, ?_, Fr.set S _ (by simp)⟩
      · simp [atF, eqS, en, b1, hc.1, hc.2, h2, z0]
      · rw [ss L2']; simp
      · exact sg (Ne.symm hk) h3
    · cases hs
  | turn p =>
    simp only [stepM] at hs
    cases hg : st.1.getLast? with
    | none => rw [hg] at hs; cases hs
    | some l =>
      rw [hg] at hs
      dsimp only at hs
      split at hs
      · rename_i hc
        cases hs
        have hne : st.1 ≠ [] := fun e => by rw [e] at hg; cases hg
        have ta := law_turn_eq (ok.l l (List.mem_of_getLast? hg)) h5 he.1 he.2 S
        have la := last_word st.1 l hg
        refine ⟨_, _, S.set k2 (.lst (st.1.map wordD ++ [wordD (turnW l p)])), rfl, ?_, ?_, ?_, Fr.set S _ (by simp)⟩
        · simp [atF, eqS, en, nn, b1, bl, hne, hc.1, hc.2, h2, h3, la, ta, z1, z3]
        · rw [ss L2']; simp
        · exact sg (Ne.symm hk) h3
      · cases hs
  | bar w =>
    simp only [stepM] at hs
    split at hs
    · rename_i hc
      cases hs
      refine ⟨_, _, S.set k3 (.lst (st.2.map wordD ++ [wordD w])), rfl, ?_, ?_, ?_, Fr.set S _ (by simp)⟩
      · simp [atF, eqS, bl, hc.1, hc.2, h2, h3, z2, z3]
      · exact sg hk h2
      · rw [ss L3']; simp
    · cases hs
  | free w =>
    simp only [stepM] at hs
    split at hs
    · rename_i hc
      cases hs
      have rw1 := rem_word h3 hc ok.nb
      refine ⟨_, _, S.set k3 (.lst ((st.2.filter fun v => decide (v ≠ w)).map wordD)), rfl, ?_, ?_, ?_, Fr.set S _ (by simp)⟩
      · simp only [decide_not] at rw1 ⊢
        simp [atF, eqS, b0, hc, h3, rw1]
      · exact sg hk h2
      · rw [ss L3']
    · cases hs
/-- the law's own reading of the deeds -/
theorem at_eq {n : Nat} {cw : List (List Int)} {dd : List Deed} {st : LB} (h : CubeOk n cw) (hdd : ∀ e ∈ dd, DeedOk n e) (hle : dd.length ≤ 60) (hr : run ([], cw) dd = some st) {S : Sto} {x : D} (hx : x = .lst (dd.map deedD) ∨ ∃ k, x = .obj k ∧ S[k]? = some (.lst (dd.map deedD))) :
    ∃ S', t__law_at [cubeD n cw, x] S = .ok (.tup [.obj S.length, .obj (S.length + 1)]) S' ∧ S'[S.length]? = some (.lst (st.1.map wordD)) ∧ S'[S.length + 1]? = some (.lst (st.2.map wordD)) ∧ Fr [] S S' := by
  let P : Nat → EnvD → Sto → Prop := fun i δ T => ∃ st1 a b, run ([], cw) (dd.take i) = some st1 ∧ δ = [some (cubeD n cw), some x, some (.obj S.length), some (.obj (S.length + 1)), a, b] ∧ T[S.length]? = some (.lst (st1.1.map wordD)) ∧ T[S.length + 1]? = some (.lst (st1.2.map wordD)) ∧ Fr [] S T
  have P0 : P 0 [some (cubeD n cw), some x, some (.obj S.length), some (.obj (S.length + 1)), none, none] (S ++ [.lst [], .lst (cw.map wordD)]) := by
    refine ⟨([], cw), none, none, by simp [run], rfl, by simp, by simp, Fr.app _ _ _⟩
  have stp : ∀ j d δ T, (dd.map deedD)[j]? = some d → P j δ T → ∃ δ1 δ' T', atB d δ = some δ1 ∧ (atF δ1 T = .nx δ' T' ∨ atF δ1 T = .ct δ' T') ∧ P (j + 1) δ' T' := by
    rintro j d δ T hj ⟨st1, a, b, r1, rfl, t1, t2, f1⟩
    rw [List.getElem?_map] at hj
    obtain ⟨e, he, rfl⟩ := Option.map_eq_some_iff.mp hj
    obtain ⟨lj, ej⟩ := List.getElem?_eq_some_iff.mp he
    have tk : dd.take (j + 1) = dd.take j ++ [e] := by rw [List.take_succ_eq_append_getElem lj, ej]
    obtain ⟨st2, r2, r3⟩ := run_take hr (j + 1)
    have r4 := r2
    rw [tk, run_app, r1] at r4
    have sx : stepM st1 e = some st2 := by
      simp only [run] at r4
      split at r4
      · rename_i w hw; rw [hw]; exact r4
      · cases r4
    have ok1 : StOk n st1 := run_ok (start_ok h) (fun e he => hdd e (List.mem_of_mem_take he)) r1
    have ll := run_len r1
    have lt : (dd.take j).length ≤ 60 := by rw [List.length_take]; omega
    have l4 := h.le
    obtain ⟨u, v, T', a1, a2, a3, a4, a5⟩ := at_step (k2 := S.length) (k3 := S.length + 1) (by omega) t1 t2 ok1 h.n5 (by simp at ll; omega) (hdd e (List.mem_of_getElem? he)) sx (cubeD n cw) x a b
    refine ⟨_, _, T', a1, .inl a2, st2, some u, some v, r2, rfl, a3, a4, ⟨Nat.le_trans f1.len a5.len, fun i y hi hy => a5.kp i y ?_ (f1.kp i y hi hy)⟩⟩
    have := (List.getElem?_eq_some_iff.mp hy).1
    simp; omega
  have fin : ∃ δ' T, forS (itQ (varE 1)) atB atF [some (cubeD n cw), some x, some (.obj S.length), some (.obj (S.length + 1)), none, none] (S ++ [.lst [], .lst (cw.map wordD)]) = .nx δ' T ∧ P dd.length δ' T := by
    rcases hx with hx | ⟨k, hx, hk⟩
    · rw [forS_stat (e_itQ (d := x) (it := .stat (dd.map deedD)) (S1 := S ++ [.lst [], .lst (cw.map wordD)]) rfl (by rw [hx]; rfl))]
      have := forL_ind (β := atB) (f := atF) P (dd.map deedD) 0 _ _ P0 (fun j d δ T hj hp => by
        rw [Nat.zero_add] at hp ⊢
        exact stp j d δ T hj hp)
      rw [Nat.zero_add, List.length_map] at this
      exact this
    · have hk' : ∀ T, Fr [] S T → T[k]? = some (.lst (dd.map deedD)) := fun T f => f.kp k _ (by simp) hk
      rw [forS_at (J := .mutl k (dd.map deedD).length) (e_itQ (d := x) (S1 := S ++ [.lst [], .lst (cw.map wordD)]) rfl (by
        rw [hx]
        show (match (S ++ [.lst [], .lst (cw.map wordD)])[k]? with | some (.lst xs) => some (ItS.mutl k xs.length) | _ => none) = _
        rw [hk' _ (Fr.app _ _ _)]))]
      have := forN_ind (β := atB) (f := atF) (k := k) (m := (dd.map deedD).length) (xs := dd.map deedD) P (fun i δ T hp => by obtain ⟨_, _, _, _, _, _, _, f⟩ := hp; exact hk' T f) (dd.map deedD).length 0 _ _ (by omega) P0 stp
      rw [List.length_map] at this ⊢
      exact this
  obtain ⟨δ', T, f1, st1, a, b, r1, rfl, t1, t2, f2⟩ := fin
  rw [List.take_length, hr] at r1
  cases r1
  refine ⟨T, ?_, t1, t2, f2⟩
  rw [law_at_def]
  have c1 : L2.atI [D.int (n : Nat), .tup (cw.map wordD)] 1 = some (.tup (cw.map wordD)) := rfl
  have c4 : CubeOk n cw := h
  have f1' := f1
  unfold cubeD at f1' ⊢
  simp [c1]
  rw [f1']
  simp
end K63
set_option Elab.async false
set_option linter.all false
set_option maxRecDepth 100000
set_option maxHeartbeats 1000000
set_option autoImplicit false
namespace K63
open L3 PySem L2
/-- plain data of small depth -/
def Pl : Nat → D → Prop
  | 0, _ => False
  | n + 1, d => d = .non ∨ (∃ b, d = .bl b) ∨ (∃ i, d = .int i) ∨ (∃ cs : List Nat, d = .str cs ∧ cs.all (fun c => decide (c < 1114112)) = true) ∨ (∃ xs : List D, (d = .tup xs ∨ d = .lst xs) ∧ xs.length ≤ 1000 ∧ ∀ x ∈ xs, Pl n x)
theorem Pl.up : ∀ {n : Nat} {d : D}, Pl n d → Pl (n + 1) d
  | 0, _, h => h.elim
  | n + 1, d, h => by
    rcases h with h | h | h | h | ⟨xs, h1, h2, h3⟩
    · exact .inl h
    · exact .inr (.inl h)
    · exact .inr (.inr (.inl h))
    · exact .inr (.inr (.inr (.inl h)))
    · exact .inr (.inr (.inr (.inr ⟨xs, h1, h2, fun x hx => (h3 x hx).up⟩)))
theorem pl_int (i : Int) : Pl 1 (.int i) := .inr (.inr (.inl ⟨i, rfl⟩))
theorem pl_non : Pl 1 .non := .inl rfl
theorem pl_bl (b : Bool) : Pl 1 (.bl b) := .inr (.inl ⟨b, rfl⟩)
theorem pl_str {cs : List Nat} (h : cs.all (fun c => decide (c < 1114112)) = true) : Pl 1 (.str cs) := .inr (.inr (.inr (.inl ⟨cs, rfl, h⟩)))
theorem pl_tup {n : Nat} {xs : List D} (hl : xs.length ≤ 1000) (h : ∀ x ∈ xs, Pl n x) : Pl (n + 1) (.tup xs) := .inr (.inr (.inr (.inr ⟨xs, .inl rfl, hl, h⟩)))
theorem pl_lst {n : Nat} {xs : List D} (hl : xs.length ≤ 1000) (h : ∀ x ∈ xs, Pl n x) : Pl (n + 1) (.lst xs) := .inr (.inr (.inr (.inr ⟨xs, .inr rfl, hl, h⟩)))
theorem pl_word {n : Nat} {w : List Int} (h : Wd n w) (h5 : n ≤ 5) : Pl 2 (wordD w) := pl_tup (by rw [List.length_map]; have := h.1; omega) fun x hx => by
  obtain ⟨i, _, rfl⟩ := List.mem_map.mp hx
  exact pl_int i
theorem pl_pair {n : Nat} {cs : List Nat} {y : D} (hc : cs.all (fun c => decide (c < 1114112)) = true) (h : Pl (n + 1) y) : Pl (n + 2) (.tup [.str cs, y]) := pl_tup (by simp) fun x hx => by
  rcases List.mem_cons.mp hx with z | z
  · rw [z]; exact .inr (.inr (.inr (.inl ⟨cs, rfl, hc⟩)))
  · rw [List.mem_singleton.mp z]; exact h
theorem pl_deed {n : Nat} {e : Deed} (h : DeedOk n e) (h5 : n ≤ 5) : Pl 3 (deedD e) := by
  cases e with
  | beg w => exact pl_pair (by decide) (pl_word h h5)
  | turn p => exact pl_pair (by decide) (pl_int _).up
  | bar w => exact pl_pair (by decide) (pl_word h h5)
  | free w => exact pl_pair (by decide) (pl_word h h5)
theorem nil_nil (S : Sto) : eqD (.lst []) (.lst []) S = .ok (.bl true) S := eq_nil (x := .lst []) (xs := []) rfl (layL_ints [])
theorem comp_none {it : IM} {own : List Nat} {β : BM} {t : TM} {f : EM} {δ : EnvD} {S S1 : Sto} {ds : List D} (hi : it δ S = .ok (.stat ds) S1) (hl : ds.length ≤ sizeLine)
    (h : ∀ d, d ∈ ds → ∃ δ1, β d (wipeD δ own) = some δ1 ∧ t δ1 S1 = .ok false S1) : compE it own β t f δ S = .ok [] S1 := by
  rw [comp_same (fun _ => false) id hi hl fun d hd => by
    obtain ⟨δ1, h1, h2⟩ := h d hd
    exact ⟨δ1, h1, h2, fun z => nomatch z⟩]
  simp
theorem same_refl : ∀ (n : Nat) (d : D) (S : Sto), Pl n d → t__law_same n [d, d] S = .ok (.bl true) S
  | 0, _, _, h => h.elim
  | n + 1, d, S, h => by
    have sq : ∀ (xs : List D) (y : D), (y = .tup xs ∨ y = .lst xs) → xs.length ≤ 1000 → (∀ x ∈ xs, Pl n x) → compE (itR1 (consA (callM lenD (consA (varE 1) nilA)) nilA)) [2] (bName 2) (notT (tst (callD (t__law_same n) 2 (consA (bin2 ixD (varE 0) (varE 2)) (consA (bin2 ixD (varE 1) (varE 2)) nilA))))) (conE (.int 1)) [some y, some y, none] S = .ok [] S := by
      intro xs y hy hl hx
      have hq : lenQ y S = some xs.length := by rcases hy with e | e <;> rw [e] <;> rfl
      refine comp_none (ds := rngD 0 xs.length) ?_ (by simp only [rngD, List.length_map, List.length_range]; exact szS (by omega)) fun d hd => ?_
      · rw [e_itR1 (j := (xs.length : Nat)) (S1 := S) (h := by simp [hq]) (hj := by omega)]
        rfl
      · obtain ⟨i, hi, rfl⟩ := List.mem_map.mp hd
        have hi' := List.mem_range.mp hi
        obtain ⟨x, hx1, hx2⟩ := atI_nat (xs := xs) (r := 0 + (i : Nat)) (by omega) (by omega)
        have ih := same_refl n x S (hx x hx2)
        refine ⟨_, rfl, ?_⟩
        rcases hy with e | e <;> subst e <;> simp [wipeD] at hx1 ⊢ <;> simp [hx1, ih]
    rcases h with h | ⟨b, h⟩ | ⟨i, h⟩ | ⟨cs, h, hc⟩ | ⟨xs, h, hl, hx⟩
    · subst h
      simp [t__law_same, b__law_same, tyName, isTy]
    · subst h
      cases b <;> simp [t__law_same, b__law_same, tyName, isTy]
    · subst h
      simp [t__law_same, b__law_same, tyName, isTy]
    · subst h
      simp [t__law_same, b__law_same, tyName, isTy, eqS hc hc]
    · have cc := sq xs d h hl hx
      rcases h with h | h <;> subst h <;> simp [t__law_same, b__law_same, tyName, isTy, cc, nil_nil]
end K63
set_option Elab.async false
set_option linter.all false
set_option maxRecDepth 100000
set_option maxHeartbeats 1000000
set_option autoImplicit false
namespace K63
open L3 PySem L2
theorem unlike_same : t__law_unlike = t_unlike_in := rfl
def unl (a b : List Int) : List D := ((rngD 0 a.length).filter fun x => match x with | .int i => !decide (L2.atI a i = L2.atI b i) | _ => false).map fun x => match x with | .int i => .int (i + 1) | y => y
theorem atI_map {α β : Type} (f : α → β) (xs : List α) (i : Int) : L2.atI (xs.map f) i = (L2.atI xs i).map f := by
  unfold L2.atI
  rw [List.length_map]
  cases ixN xs.length i with
  | none => rfl
  | some j => simp
theorem unlike_eq {a b : List Int} (h : a.length = b.length) (h5 : a.length ≤ 5) (S : Sto) : t_unlike_in [wordD a, wordD b] S = .ok (.lst (unl a b)) S := by
  have cc : compE (itR1 (consA (callM lenD (consA (varE 0) nilA)) nilA)) [2] (bName 2) (tst (bin2 neD (bin2 ixD (varE 0) (varE 2)) (bin2 ixD (varE 1) (varE 2)))) (bin2 addA (varE 2) (conE (.int 1))) [some (.tup (a.map .int)), some (.tup (b.map .int)), none] S = .ok (unl a b) S := by
    refine comp_same (ds := rngD 0 a.length) (S1 := S) _ _ ?_ (by simp only [rngD, List.length_map, List.length_range]; exact szS (by omega)) fun d hd => ?_
    · rw [e_itR1 (j := (a.length : Nat)) (S1 := S) (h := by simp) (hj := by omega)]
      rfl
    · obtain ⟨i, hi, rfl⟩ := List.mem_map.mp hd
      have hi' := List.mem_range.mp hi
      obtain ⟨x, hx1, hx2⟩ := atI_nat (xs := a) (r := 0 + (i : Nat)) (by omega) (by omega)
      obtain ⟨y, hy1, hy2⟩ := atI_nat (xs := b) (r := 0 + (i : Nat)) (by omega) (by omega)
      refine ⟨_, rfl, ?_, fun _ => ?_⟩
      · simp [wipeD] at hx1 hy1 ⊢
        simp [atI_map, hx1, hy1]
      · simp [wipeD]
  unfold wordD
  simp [t_unlike_in, b_unlike_in, cc]
section
variable {S : Sto} {d i1 i2 i3 i4 i5 n : Nat} {cw : List (List Int)} {dd tk : List Deed} {st : LB}
theorem is_whole_eq (h : Dk S d i1 i2 i3 i4 i5 n cw dd tk st) : t_Desk_is_whole [.obj d] S = .ok (.bl (!decide (st.1 = []) && decide (leftW n st = []))) S := by
  have q0 := h.ds.ins
  have q4 := h.ds.s4
  have nn := ne_nil (x := .obj i4) (S := S) (xs := st.1.map wordD) (by simp [q4]) (layL_words _)
  have le := left_eq h
  have et := eq_nilT (S := S) (layL_words (leftW n st))
  by_cases h1 : st.1 = []
  · simp [t_Desk_is_whole, b_Desk_is_whole, q0, nn, h1]
  · simp [t_Desk_is_whole, b_Desk_is_whole, q0, nn, h1, le, et]
/-- the round of a line -/
def roundB (st : LB) : Bool := match st.1.head?, st.1.getLast? with
  | some a, some b => decide (2 < st.1.length) && decide ((unl a b).length = 1)
  | _, _ => false
theorem head_word (ws : List (List Int)) (l : List Int) (h : ws.head? = some l) : L2.atI (ws.map wordD) 0 = some (wordD l) := by
  cases ws with
  | nil => cases h
  | cons w r => cases h; rw [atI_map]; simp [L2.atI, ixN]
theorem is_round_eq (h : Dk S d i1 i2 i3 i4 i5 n cw dd tk st) : t_Desk_is_round [.obj d] S = .ok (.bl (roundB st)) S := by
  have q0 := h.ds.ins
  have q4 := h.ds.s4
  have so := h.so
  cases hh : st.1.head? with
  | none =>
    have e0 : st.1 = [] := List.head?_eq_none_iff.mp hh
    simp [t_Desk_is_round, b_Desk_is_round, q0, q4, e0, roundB]
  | some a =>
    cases hl : st.1.getLast? with
    | none =>
      have e0 : st.1 = [] := List.getLast?_eq_none_iff.mp hl
      simp [t_Desk_is_round, b_Desk_is_round, q0, q4, e0, roundB]
    | some b =>
      have wa := so.l a (List.mem_of_head? hh)
      have wb := so.l b (List.mem_of_getLast? hl)
      have ue := unlike_eq (wa.1.trans wb.1.symm) (by have := wa.1; have := h.cu.n5; omega) S
      have x1 := head_word st.1 a hh
      have x2 := last_word st.1 b hl
      have c2 : ((2 : Int) < (st.1.length : Nat)) = (2 < st.1.length) := by simp only [eq_iff_iff]; omega
      by_cases h2 : 2 < st.1.length
      · simp [t_Desk_is_round, b_Desk_is_round, q0, q4, roundB, hh, hl, x1, x2, ue, h2, c2]
        omega
      · simp [t_Desk_is_round, b_Desk_is_round, q0, q4, roundB, hh, hl, h2, c2]
def fs1 (q : D) : List (Str × D) := [("cube", q)]
def fs2 (q a : D) : List (Str × D) := [("cube", q), ("deeds", a)]
@[simp] theorem f0_put (q : D) : putD (Str.ofString "cube") q [] = fs1 q := id rfl
@[simp] theorem f1_put (q a : D) : putD (Str.ofString "deeds") a (fs1 q) = fs2 q a := id rfl
@[simp] theorem f2_put (q a b : D) : putD (Str.ofString "taken") b (fs2 q a) = fs3 q a b := id rfl
@[simp] theorem f1_len (q : D) : (fs1 q).length = 1 := id rfl
@[simp] theorem f2_len (q a : D) : (fs2 q a).length = 2 := id rfl
theorem init_eq (h : CubeOk n cw) (h0 : S[d]? = some (.ins (Str.ofString "Desk") [])) :
    ∃ S', t_Desk___init__ [.obj d, cubeD n cw] S = .ok .non S' ∧ Dk S' d S.length (S.length + 1) (S.length + 2) (S.length + 3) (S.length + 4) n cw [] [] ([], cw) ∧ Fr [d] S S' := by
  have l0 : d < S.length := (List.getElem?_eq_some_iff.mp h0).1
  have nc := need_cube_eq h S
  have g0 : ∀ m : MO, (S.set d m)[d]? = some m := fun m => List.getElem?_set_self l0
  have g2 : ∀ (m : MO) (E : Sto), (S.set d m ++ E)[d]? = some m := fun m E => get_app E (g0 m)
  let F : Sto := (S.set d (.ins (Str.ofString "Desk") (fs3 (cubeD n cw) (.obj S.length) (.obj (S.length + 1))))) ++ [MO.lst [], MO.lst []]
  have g1 : F[d]? = some (.ins (Str.ofString "Desk") (fs3 (cubeD n cw) (.obj S.length) (.obj (S.length + 1)))) := get_app _ (g0 _)
  have Fl : F.length = S.length + 2 := by simp [F]
  have ce := clear_eq0 h g1
  have D1 := DS.cleared (S := F) (d := d) (i1 := S.length) (i2 := S.length + 1) (n := n) (cw := cw) (dd := []) (tk := []) (by omega) (by simp [F]) (by simp [F]) (by omega) (by omega) (by omega)
  rw [Fl] at ce D1
  refine ⟨_, ?_, ⟨D1, h, (fun _ h => nomatch h), rfl, by simp⟩, ?_⟩
  · have c0 : t_Desk___init__ [.obj d, cubeD n cw] S = (t_Desk_clear [.obj d] F).bind fun _ S1 => .ok .non S1 := by
      have g3 : ∀ (m m' : MO) (E : Sto), (S.set d m ++ E).set d m' = S.set d m' ++ E := fun m m' E => by
        rw [List.set_append_left _ _ (by simpa using l0), List.set_set]
      clear l0
      simp [t_Desk___init__, b_Desk___init__, nc, h0, g0, g2, g3, F, -e_putD, -e_putD2]
      generalize t_Desk_clear _ _ = r
      cases r <;> rfl
    rw [c0, ce]
    rfl
  · exact (((Fr.set (ks := [d]) S _ (by simp)).trans (Fr.app _ _ _)).trans (Fr.set _ _ (by simp))).trans (Fr.app _ _ _)
end
end K63
set_option Elab.async false
set_option linter.all false
set_option maxRecDepth 100000
set_option maxHeartbeats 1000000
set_option autoImplicit false
namespace K63
open L3 PySem L2
theorem sort_obj {k n : Nat} {S : Sto} {ws : List (List Int)} (hS : S[k]? = some (.lst (ws.map wordD))) (h1 : 1 ≤ n) (hw : ∀ w ∈ ws, Wd n w) (hl : ws.length < 64) : sortA 2 [.obj k] S = .ok ((sortC 2 ws).map wordD) S := by
  have e1 : sortTD 2 [.obj k] S = .ok ((sortC 2 ws).map wordD) S := by
    unfold sortTD
    have : asL (.obj k) S = some (ws.map wordD) := by simp [hS]
    simp only [this, wordsOf_map]
    rw [if_pos ⟨hl, okWords_wd h1 hw⟩]
  unfold sortA
  rw [e1]
  rfl
section
variable {S : Sto} {L K v n : Nat} {cw : List (List Int)} {st : LB} {δ : EnvD}
theorem left_comp (h1 : 1 ≤ n) (h5 : n ≤ 5) (hq : δ[1]? = some (some (cubeD n cw))) (d3 : δ[3]? = some (some (.obj L))) (d4 : δ[4]? = some (some (.obj K))) (hv : 4 < v) (hv2 : v < δ.length) (hL : S[L]? = some (.lst (st.1.map wordD))) (hK : S[K]? = some (.lst (st.2.map wordD))) :
    compE (itQ (callD t__law_all 1 (consA (bin2 ixD (varE 1) (conE (.int 0))) nilA))) [v] (bName v) (andT (tst (bin2 (inA true) (varE v) (varE 4))) (tst (bin2 (inA true) (varE v) (varE 3)))) (varE v) δ S = .ok ((leftW n st).map wordD) S := by
  have aw := law_all_eq h1 h5 S
  have c0 : L2.atI [D.int (n : Nat), .tup (cw.map wordD)] 0 = some (.int (n : Nat)) := rfl
  have b1 : ∀ w, inA true (wordD w) (.obj K) S = .ok (.bl (!decide (w ∈ st.2))) S := fun w => in_words (ws := st.2) true (by simp [hK])
  have l1 : ∀ w, inA true (wordD w) (.obj L) S = .ok (.bl (!decide (w ∈ st.1))) S := fun w => in_words (ws := st.1) true (by simp [hL])
  have n3 : v ≠ 3 := by omega
  have n4 : v ≠ 4 := by omega
  rw [comp_same (ds := (allW n).map wordD) (fun x => decide (wordOf x ∉ st.2) && decide (wordOf x ∉ st.1)) id (S1 := S)]
  · rw [filter_map_word _ (fun w => decide (w ∉ st.2) && decide (w ∉ st.1)) (fun w => by simp)]
    rfl
  · exact e_itQ (d := .lst ((allW n).map wordD)) (S1 := S) (by simp [hq, cubeD, c0, aw]) rfl
  · rw [List.length_map]; exact szS (by have := allW_le h5; omega)
  · intro x hx
    obtain ⟨w, hw, rfl⟩ := List.mem_map.mp hx
    have g3 : ((δ.set v none).set v (some (wordD w)))[3]? = some (some (.obj L)) := by rw [List.getElem?_set_ne n3, List.getElem?_set_ne n3]; exact d3
    have g4 : ((δ.set v none).set v (some (wordD w)))[4]? = some (some (.obj K)) := by rw [List.getElem?_set_ne n4, List.getElem?_set_ne n4]; exact d4
    have gv : ((δ.set v none).set v (some (wordD w)))[v]? = some (some (wordD w)) := List.getElem?_set_self (by simpa using hv2)
    refine ⟨(δ.set v none).set v (some (wordD w)), rfl, ?_, fun _ => ?_⟩
    · by_cases hb : w ∈ st.2 <;> simp only [e_andT, e_tst, e_bin2, e_varE, g3, g4, gv, bind_ok, b1, l1, hb, e_toB, wordOf_word] <;> simp
    · simp only [e_varE, gv, id]
theorem rng_one (n : Nat) : rngD 1 n = ((List.range n).map (· + 1)).map fun p : Nat => D.int (p : Nat) := by
  unfold rngD
  rw [List.map_map]
  apply List.map_congr_left
  intro i _
  show D.int (1 + (i : Nat)) = D.int ((i + 1 : Nat) : Int)
  congr 1; omega
theorem able_comp {f : EM} {G : D → D} (h1 : 1 ≤ n) (h5 : n ≤ 5) (ok : StOk n st) (hq : δ[1]? = some (some (cubeD n cw))) (d3 : δ[3]? = some (some (.obj L))) (d5 : δ[5]? = some (some (.lst ((leftW n st).map wordD)))) (hv : 5 < v) (hv2 : v < δ.length) (hL : S[L]? = some (.lst (st.1.map wordD)))
    (hf : ∀ p : Nat, f ((δ.set v none).set v (some (.int (p : Nat)))) S = .ok (G (.int (p : Nat))) S) :
    compE (itR2 (consA (conE (.int 1)) (consA (bin2 addA (bin2 ixD (varE 1) (conE (.int 0))) (conE (.int 1))) nilA))) [v] (bName v) (andT (tst (bin2 neD (varE 3) (frzE (lstE nilA)))) (tst (bin2 (inA false) (callD t__law_turn 2 (consA (bin2 ixD (varE 3) (un1 negI (conE (.int 1)))) (consA (varE v) nilA))) (varE 5)))) f δ S = .ok ((ablePs n st).map fun p => G (.int (p : Nat))) S := by
  have c0 : L2.atI [D.int (n : Nat), .tup (cw.map wordD)] 0 = some (.int (n : Nat)) := rfl
  have nn := ne_nil (x := .obj L) (S := S) (xs := st.1.map wordD) (by simp [hL]) (layL_words _)
  have li : ∀ w, inA false (wordD w) (.lst ((leftW n st).map wordD)) S = .ok (.bl (decide (w ∈ leftW n st))) S := fun w => in_words (ws := leftW n st) false rfl
  have n3 : v ≠ 3 := by omega
  have n5 : v ≠ 5 := by omega
  rw [comp_same (ds := rngD 1 n) (fun x => match x with | .int i => (stepM st (.turn i.toNat)).isSome | _ => false) G (S1 := S)]
  · congr 1
    rw [rng_one, List.filter_map, List.map_map]
    rfl
  · have nx : ((n : Int) + 1 - 1).toNat = n := by rw [Int.add_sub_cancel]; rfl
    rw [e_itR2 (i := 1) (j := (n : Int) + 1) (S1 := S) (h := by simp [hq, cubeD, c0]) (hj := by omega), nx]
  · simp only [rngD, List.length_map, List.length_range]; exact szS (by omega)
  · intro x hx
    rw [rng_one] at hx
    obtain ⟨p, hp, rfl⟩ := List.mem_map.mp hx
    obtain ⟨i, hi, rfl⟩ := List.mem_map.mp hp
    have hi' := List.mem_range.mp hi
    have g3 : ((δ.set v none).set v (some (D.int ((i + 1 : Nat) : Int))))[3]? = some (some (.obj L)) := by rw [List.getElem?_set_ne n3, List.getElem?_set_ne n3]; exact d3
    have g5 : ((δ.set v none).set v (some (D.int ((i + 1 : Nat) : Int))))[5]? = some (some (.lst ((leftW n st).map wordD))) := by rw [List.getElem?_set_ne n5, List.getElem?_set_ne n5]; exact d5
    have gv : ((δ.set v none).set v (some (D.int ((i + 1 : Nat) : Int))))[v]? = some (some (D.int ((i + 1 : Nat) : Int))) := List.getElem?_set_self (by simpa using hv2)
    refine ⟨(δ.set v none).set v (some (D.int ((i + 1 : Nat) : Int))), rfl, ?_, fun _ => hf (i + 1)⟩
    show _ = R.ok (stepM st (.turn ((i + 1 : Nat) : Int).toNat)).isSome S
    rw [Int.toNat_natCast]
    cases hl : st.1.getLast? with
    | none =>
      have e0 : st.1 = [] := List.getLast?_eq_none_iff.mp hl
      simp only [e_andT, e_tst, e_bin2, e_varE, g3, bind_ok, e_frzE, e_lstE, e_nilA]
      simp [nn, e0, stepM]
    | some l =>
      have hne : st.1 ≠ [] := fun e => by rw [e] at hl; cases hl
      have hwl := ok.l l (List.mem_of_getLast? hl)
      have ta := law_turn_eq (p := i + 1) hwl h5 (by omega) (by omega) S
      have la := last_word st.1 l hl
      have hm : turnW l (i + 1) ∈ allW n := mem_allW.mpr (turn_wd hwl (by omega) (by omega))
      have e1 : (stepM st (.turn (i + 1))).isSome = decide (turnW l (i + 1) ∈ leftW n st) := by
        unfold leftW
        simp only [stepM, hl]
        by_cases q1 : turnW l (i + 1) ∈ st.2 <;> by_cases q2 : turnW l (i + 1) ∈ st.1 <;> simp [q1, q2, hm]
      rw [e1]
      simp only [e_andT, e_tst, e_bin2, e_varE, g3, g5, gv, bind_ok, e_frzE, e_lstE, e_nilA, e_callD, e_consA, e_un1, e_conE, e_negI]
      simp [nn, hne, hL, la]
      simp only [Int.natCast_add] at ta
      simp at ta
      simp [ta, li]
end
section
variable {S : Sto} {d i1 i2 i3 i4 i5 n : Nat} {cw : List (List Int)} {dd tk : List Deed} {st : LB}
theorem Dk.fr (h : Dk S d i1 i2 i3 i4 i5 n cw dd tk st) {ks : List Nat} {S' : Sto} (f : Fr ks S S') (k0 : d ∉ ks) (k1 : i1 ∉ ks) (k2 : i2 ∉ ks) (k3 : i3 ∉ ks) (k4 : i4 ∉ ks) (k5 : i5 ∉ ks) : Dk S' d i1 i2 i3 i4 i5 n cw dd tk st :=
  ⟨h.ds.fr f k0 k1 k2 k3 k4 k5, h.cu, h.ok, h.ru, h.le⟩
theorem pl_words {n : Nat} {ws : List (List Int)} (hw : ∀ w ∈ ws, Wd n w) (h5 : n ≤ 5) (hl : ws.length ≤ 1000) : Pl 3 (.tup (ws.map wordD)) := pl_tup (by simpa using hl) fun x hx => by
  obtain ⟨w, h, rfl⟩ := List.mem_map.mp hx
  exact pl_word (hw w h) h5
theorem is_as_eq (h : Dk S d i1 i2 i3 i4 i5 n cw dd tk st) (hle : dd.length ≤ 50) {x : D} (hx : x = .lst (dd.map deedD) ∨ ∃ k, x = .obj k ∧ S[k]? = some (.lst (dd.map deedD))) :
    ∃ S', t__law_is_as [.obj d, cubeD n cw, x] S = .ok (.bl true) S' ∧ Fr [] S S' := by
  obtain ⟨T, a1, t1, t2, f⟩ := at_eq h.cu h.ok h.le h.ru hx
  have hT := h.fr f (by simp) (by simp) (by simp) (by simp) (by simp) (by simp)
  refine ⟨T, ?_, f⟩
  have so := h.so
  have ll := h.len
  have rl := run_len h.ru
  have l4 := h.cu.le
  have hb : st.2.length < 64 := by simp at rl; omega
  have xT : asQ x T = some (dd.map deedD) := by
    rcases hx with e | ⟨k, e, hk⟩
    · rw [e]; rfl
    · rw [e]; simp [f.kp k _ (by simp) hk]
  have cl := left_comp (v := 9) (δ := [some (.obj d), some (cubeD n cw), some x, some (.obj S.length), some (.obj (S.length + 1)), none, none, none, none, none, none]) h.cu.n1 h.cu.n5 rfl rfl rfl (by decide) (by simp) t1 t2
  have ca := able_comp (v := 10) (f := varE 10) (G := id) (δ := [some (.obj d), some (cubeD n cw), some x, some (.obj S.length), some (.obj (S.length + 1)), some (.lst ((leftW n st).map wordD)), none, none, none, none, none]) h.cu.n1 h.cu.n5 so rfl rfl rfl (by decide) (by simp) t1 (fun p => rfl)
  have w1 := words_eq hT
  have w2 := barred_eq hT hb
  have w3 := able_eq hT
  have w4 := left_eq hT
  have w5 := log_eq hT
  have w6 := is_whole_eq hT
  have w7 := is_round_eq hT
  have so2 := sort_obj t2 h.cu.n1 so.b hb
  have q0 := hT.ds.ins
  have nn := ne_nil (x := .obj S.length) (S := T) (xs := st.1.map wordD) (by simp [t1]) (layL_words _)
  have ee := eq_nil (x := .lst ((leftW n st).map wordD)) (S := T) (xs := (leftW n st).map wordD) rfl (layL_words _)
  have ends : ∀ b6 b7 : Option D, andV (bin2 gtI (callM lenD (consA (varE 3) nilA)) (conE (.int 2))) (bin2 eqD (callM lenD (consA (callD t__law_unlike 2 (consA (bin2 ixD (varE 3) (conE (.int 0))) (consA (bin2 ixD (varE 3) (un1 negI (conE (.int 1)))) nilA))) nilA)) (conE (.int 1))) [some (.obj d), some (cubeD n cw), some x, some (.obj S.length), some (.obj (S.length + 1)), some (.lst ((leftW n st).map wordD)), b6, b7, none, none, none] T = .ok (.bl (roundB st)) T := fun b6 b7 => by
    cases hh : st.1.head? with
    | none =>
      have e0 : st.1 = [] := List.head?_eq_none_iff.mp hh
      simp [t1, e0, roundB]
    | some a =>
      cases hl : st.1.getLast? with
      | none =>
        have e0 : st.1 = [] := List.getLast?_eq_none_iff.mp hl
        simp [t1, e0, roundB]
      | some b =>
        have wa := so.l a (List.mem_of_head? hh)
        have wb := so.l b (List.mem_of_getLast? hl)
        have ue := unlike_eq (wa.1.trans wb.1.symm) (by have := wa.1; have := h.cu.n5; omega) T
        rw [← unlike_same] at ue
        have x1 := head_word st.1 a hh
        have x2 := last_word st.1 b hl
        have c2 : ((2 : Int) < (st.1.length : Nat)) = (2 < st.1.length) := by simp only [eq_iff_iff]; omega
        by_cases h2 : 2 < st.1.length
        · simp [t1, roundB, hh, hl, x1, x2, ue, h2, c2]
          omega
        · simp [t1, roundB, hh, hl, h2, c2]
  have p1 : Pl 5 (.lst [.tup (st.1.map wordD), .tup ((sortC 2 st.2).map wordD), .tup ((ablePs n st).map fun p => D.int (p : Nat)), .tup ((leftW n st).map wordD), .tup (dd.map deedD)]) := by
    have hle2 := h.le
    have lf : ∀ w ∈ leftW n st, Wd n w := fun w hw => mem_allW.mp (List.mem_filter.mp hw |>.1)
    have ll2 : (leftW n st).length ≤ 32 := Nat.le_trans (List.length_filter_le _ _) (allW_le h.cu.n5)
    refine pl_lst (by simp) fun y hy => ?_
    simp only [List.mem_cons, List.not_mem_nil, or_false] at hy
    rcases hy with e | e | e | e | e
    · rw [e]; exact (pl_words so.l h.cu.n5 (by omega)).up
    · rw [e]; exact pl_words (fun w hw => so.b w ((sortC_perm 2 _).mem_iff.mp hw)) h.cu.n5 (by rw [(sortC_perm 2 _).length_eq]; omega) |>.up
    · rw [e]; exact (pl_tup (n := 1) (by
        rw [List.length_map]
        refine Nat.le_trans (List.length_filter_le _ _) ?_
        rw [List.length_map, List.length_range]
        have := h.cu.n5; omega) fun z hz => by
        obtain ⟨p, _, rfl⟩ := List.mem_map.mp hz
        exact pl_int _).up.up
    · rw [e]; exact (pl_words lf h.cu.n5 (by omega)).up
    · rw [e]; exact pl_tup (by rw [List.length_map]; omega) fun z hz => by
        obtain ⟨p, hp, rfl⟩ := List.mem_map.mp hz
        exact pl_deed (h.ok p hp) h.cu.n5
  have s1 := same_refl 8 _ T p1.up.up.up
  have s2 := same_refl 8 (.lst [.bl (!decide (st.1 = []) && decide (leftW n st = [])), .bl (roundB st)]) T (Pl.up (n := 7) (Pl.up (n := 6) (Pl.up (n := 5) (Pl.up (n := 4) (Pl.up (n := 3) (Pl.up (n := 2) (pl_lst (n := 1) (by simp) (fun y hy => by
    rcases List.mem_cons.mp hy with z | z
    · rw [z]; exact pl_bl _
    · rw [List.mem_singleton.mp z]; exact pl_bl _))))))))
  simp only [id] at ca
  have aa : ∀ y, andV (bin2 neD (varE 3) (frzE (lstE nilA))) (bin2 eqD (varE 5) (frzE (lstE nilA))) [some (.obj d), some (cubeD n cw), some x, some (.obj S.length), some (.obj (S.length + 1)), some (.lst ((leftW n st).map wordD)), y, some (.lst [.tup (st.1.map wordD), .tup ((sortC 2 st.2).map wordD), .tup ((ablePs n st).map fun p => D.int (p : Nat)), .tup ((leftW n st).map wordD), .tup (dd.map deedD)]), some (.bl (roundB st)), none, none] T = .ok (.bl (!decide (st.1 = []) && decide (leftW n st = []))) T := fun y => by
    by_cases h1 : st.1 = []
    · simp [nn, h1]
    · simp [nn, ee, h1]
  simp [t__law_is_as, b__law_is_as, a1, cl, ca, q0, w1, w2, w3, w4, w5, w6, w7, t1, xT, so2, s1, s2, ends, aa, -e_andV]
end
end K63
set_option Elab.async false
set_option linter.all false
set_option maxRecDepth 100000
set_option maxHeartbeats 1000000
set_option autoImplicit false
namespace K63
open L3 PySem L2
theorem mul4 (x : D) (S : Sto) : mulA (.lst [x]) (.int 4) S = .ok (.lst [x, x, x, x]) S := by
  have e : mulA (.lst [x]) (.int 4) S = mulL (.lst [x]) (.int 4) S := rfl
  rw [e]
  simp [mulL, repL]
  try decide
def dwSome : SM := (setS 7 (newE (addLE (bin2 addA (varE 6) (varE 6)) (ifE (andT (tst (bin2 eqD (varE 3) (frzE (lstE nilA)))) (tst (bin2 neD (varE 5) (frzE (lstE nilA))))) (bin2 mulA (frzE (lstE (consA (tupE (consA (conE (.str [98, 101, 103, 105, 110])) (consA (callD t__law_some 2 (consA (varE 0) (consA (varE 5) nilA))) nilA))) nilA))) (conE (.int 4))) (frzE (lstE nilA))))))
def dwBar : SM := (ifS (andT (tst (bin2 neD (varE 5) (frzE (lstE nilA)))) (tst (bin2 eqD (callD t__law_roll 2 (consA (varE 0) (consA (conE (.int 4)) nilA))) (conE (.int 0))))) (dropS (mthD appD (varE 7) (consA (tupE (consA (conE (.str [98, 97, 114])) (consA (callD t__law_some 2 (consA (varE 0) (consA (varE 5) nilA))) nilA))) nilA))) nxS)
def dwFree : SM := (ifS (andT (tst (bin2 neD (varE 4) (frzE (lstE nilA)))) (tst (bin2 eqD (callD t__law_roll 2 (consA (varE 0) (consA (conE (.int 3)) nilA))) (conE (.int 0))))) (dropS (mthD appD (varE 7) (consA (tupE (consA (conE (.str [102, 114, 101, 101])) (consA (callD t__law_some 2 (consA (varE 0) (consA (varE 4) nilA))) nilA))) nilA))) nxS)
def dwRet : SM := (retS (ifE (tst (bin2 neD (varE 7) (frzE (lstE nilA)))) (callD t__law_some 2 (consA (varE 0) (consA (varE 7) nilA))) (conE .non)))
def dwLeft : EM := frzE (compE (itQ (callD t__law_all 1 (consA (bin2 ixD (varE 1) (conE (.int 0))) nilA))) [8] (bName 8) (andT (tst (bin2 (inA true) (varE 8) (varE 4))) (tst (bin2 (inA true) (varE 8) (varE 3)))) (varE 8))
def dwAble : EM := frzE (compE (itR2 (consA (conE (.int 1)) (consA (bin2 addA (bin2 ixD (varE 1) (conE (.int 0))) (conE (.int 1))) nilA))) [9] (bName 9) (andT (tst (bin2 neD (varE 3) (frzE (lstE nilA)))) (tst (bin2 (inA false) (callD t__law_turn 2 (consA (bin2 ixD (varE 3) (un1 negI (conE (.int 1)))) (consA (varE 9) nilA))) (varE 5)))) (tupE (consA (conE (.str [116, 117, 114, 110])) (consA (varE 9) nilA))))
theorem drawn_def : t__law_drawn = fnD 10 (seqS (asgS (callD t__law_at 2 (consA (varE 1) (consA (varE 2) nilA))) (bTup (bCons (bName 3) (bCons (bName 4) bNil)))) (seqS (setS 5 dwLeft) (seqS (setS 6 dwAble) (seqS dwSome (seqS dwBar (seqS dwFree dwRet)))))) := rfl
/-- what may be drawn -/
def Gd (n : Nat) (st : LB) (e : Deed) : Prop := DeedOk n e ∧ (stepM st e).isSome = true
structure Dr (S : Sto) (c L K m n : Nat) (st : LB) (es : List Deed) : Prop where
  cup : Cup S c
  l : S[L]? = some (.lst (st.1.map wordD))
  k : S[K]? = some (.lst (st.2.map wordD))
  s : S[m]? = some (.lst (es.map deedD))
  good : ∀ e ∈ es, Gd n st e
  le : es.length ≤ 100
  cl : L ≠ c
  ck : K ≠ c
  cm : m ≠ c
  lm : L ≠ m
  km : K ≠ m
section
variable {S : Sto} {c L K m n : Nat} {cw : List (List Int)} {st : LB} {es : List Deed} {x q : D} {ab : D}
def dwEnv (c L K m n : Nat) (q x : D) (st : LB) (ab : D) : EnvD := [some (.obj c), some q, some x, some (.obj L), some (.obj K), some (.lst ((leftW n st).map wordD)), some ab, some (.obj m), none, none]
theorem Dr.kp {S' : Sto} (h : Dr S c L K m n st es) (hc : Cup S' c) (k : Kp c S S') : Dr S' c L K m n st es := ⟨hc, k.kp _ _ h.cl h.l, k.kp _ _ h.ck h.k, k.kp _ _ h.cm h.s, h.good, h.le, h.cl, h.ck, h.cm, h.lm, h.km⟩
theorem Dr.push {e : Deed} (h : Dr S c L K m n st es) (he : Gd n st e) (hl : es.length ≤ 99) : Dr (S.set m (.lst ((es ++ [e]).map deedD))) c L K m n st (es ++ [e]) := by
  obtain ⟨a, b, h1, h2⟩ := h.cup.ex
  refine ⟨⟨a, b, sg (Ne.symm h.cm) h1, h2⟩, sg h.lm h.l, sg h.km h.k, ss (List.getElem?_eq_some_iff.mp h.s).1, fun f hf => ?_, by simp; omega, h.cl, h.ck, h.cm, h.lm, h.km⟩
  rcases List.mem_append.mp hf with z | z
  · exact h.good f z
  · rw [List.mem_singleton.mp z]; exact he
theorem Kp.fr {c m : Nat} {S S' : Sto} (k : Kp c S S') : Fr [c, m] S S' := ⟨k.len, fun i x hi q => k.kp i x (fun z => hi (by simp [z])) q⟩
theorem left_wd {w : List Int} (h : w ∈ leftW n st) : Wd n w ∧ w ∉ st.2 ∧ w ∉ st.1 := by
  obtain ⟨h1, h2⟩ := List.mem_filter.mp h
  simp at h2
  exact ⟨mem_allW.mp h1, h2.1, h2.2⟩
theorem bar_step (h : Dr S c L K m n st es) (h5 : n ≤ 5) (hl : es.length ≤ 99) : ∃ S' es', dwBar (dwEnv c L K m n q x st ab) S = .nx (dwEnv c L K m n q x st ab) S' ∧ Dr S' c L K m n st es' ∧ Fr [c, m] S S' ∧ es'.length ≤ es.length + 1 := by
  have nn := ne_nil (x := .lst ((leftW n st).map wordD)) (S := S) (xs := (leftW n st).map wordD) rfl (layL_words _)
  by_cases h0 : leftW n st = []
  · refine ⟨S, es, ?_, h, Fr.refl _ _, by omega⟩
    simp [h0] at nn
    simp [dwBar, dwEnv, nn, h0]
  · obtain ⟨r, S1, r1, r2, r3, r4, r5⟩ := roll_eq (m := 4) h.cup (by decide) (by decide)
    have D1 := h.kp r4 r5
    by_cases h1 : r = 0
    · obtain ⟨y, S2, s1, s2, s3, s4⟩ := some_lst (xs := (leftW n st).map wordD) D1.cup (by simpa using h0) (by rw [List.length_map]; have := allW_le h5; have : (leftW n st).length ≤ (allW n).length := List.length_filter_le _ _; omega)
      obtain ⟨w, hw, rfl⟩ := List.mem_map.mp s2
      obtain ⟨w1, w2, w3⟩ := left_wd hw
      have D2 := D1.kp s3 s4
      have D3 := D2.push (e := .bar w) ⟨w1, by simp [stepM, w2, w3]⟩ hl
      refine ⟨_, _, ?_, D3, ((Kp.fr r5).trans (Kp.fr s4)).trans (Fr.set _ _ (by simp)), by simp⟩
      have z1 : es.length < sizeLine := Nat.lt_of_le_of_lt hl (by rw [sizeLine_eq]; omega)
      have g1 := D1.s
      have g2 := D2.s
      subst h1
      simp [dwBar, dwEnv, nn, h0, r1, s1, g1, g2, z1, deedD]
    · refine ⟨S1, es, ?_, D1, Kp.fr r5, by omega⟩
      simp [dwBar, dwEnv, nn, h0, r1, h1]
theorem free_step (h : Dr S c L K m n st es) (ok : StOk n st) (hb : st.2.length ≤ 100) (hl : es.length ≤ 99) : ∃ S' es', dwFree (dwEnv c L K m n q x st ab) S = .nx (dwEnv c L K m n q x st ab) S' ∧ Dr S' c L K m n st es' ∧ Fr [c, m] S S' ∧ es'.length ≤ es.length + 1 := by
  have nn := ne_nil (x := .obj K) (S := S) (xs := st.2.map wordD) (by simp [h.k]) (layL_words _)
  by_cases h0 : st.2 = []
  · refine ⟨S, es, ?_, h, Fr.refl _ _, by omega⟩
    simp [dwFree, dwEnv, nn, h0]
  · obtain ⟨r, S1, r1, r2, r3, r4, r5⟩ := roll_eq (m := 3) h.cup (by decide) (by decide)
    have D1 := h.kp r4 r5
    by_cases h1 : r = 0
    · obtain ⟨y, S2, s1, s2, s3, s4⟩ := some_obj (xs := st.2.map wordD) D1.cup D1.ck D1.k (by simpa using h0) (by rw [List.length_map]; omega)
      obtain ⟨w, hw, rfl⟩ := List.mem_map.mp s2
      have D2 := D1.kp s3 s4
      have D3 := D2.push (e := .free w) ⟨ok.b w hw, by simp [stepM, hw]⟩ hl
      refine ⟨_, _, ?_, D3, ((Kp.fr r5).trans (Kp.fr s4)).trans (Fr.set _ _ (by simp)), by simp⟩
      have z1 : es.length < sizeLine := Nat.lt_of_le_of_lt hl (by rw [sizeLine_eq]; omega)
      have g1 := D1.s
      have g2 := D2.s
      subst h1
      simp [dwFree, dwEnv, nn, h0, r1, s1, g1, g2, z1, deedD]
    · refine ⟨S1, es, ?_, D1, Kp.fr r5, by omega⟩
      simp [dwFree, dwEnv, nn, h0, r1, h1]
theorem ret_step (h : Dr S c L K m n st es) : ∃ S' y, dwRet (dwEnv c L K m n q x st ab) S = .rt y S' ∧ (y = .non ∨ ∃ e, y = deedD e ∧ Gd n st e) ∧ Cup S' c ∧ Kp c S S' := by
  have nn := ne_nil (x := .obj m) (S := S) (xs := es.map deedD) (by simp [h.s]) (layL_deeds _)
  by_cases h0 : es = []
  · refine ⟨S, .non, ?_, .inl rfl, h.cup, Kp.refl _ _⟩
    simp [dwRet, dwEnv, nn, h0]
  · obtain ⟨y, S2, s1, s2, s3, s4⟩ := some_obj (xs := es.map deedD) h.cup h.cm h.s (by simpa using h0) (by rw [List.length_map]; have := h.le; omega)
    obtain ⟨e, he, rfl⟩ := List.mem_map.mp s2
    refine ⟨S2, _, ?_, .inr ⟨e, rfl, h.good e he⟩, s3, s4⟩
    simp [dwRet, dwEnv, nn, h0, s1]
theorem able_good {p : Nat} (h : p ∈ ablePs n st) : Gd n st (.turn p) := by
  obtain ⟨h1, h2⟩ := List.mem_filter.mp h
  obtain ⟨i, hi, rfl⟩ := List.mem_map.mp h1
  have := List.mem_range.mp hi
  exact ⟨⟨by omega, by omega⟩, h2⟩
theorem able_len (n : Nat) (st : LB) : (ablePs n st).length ≤ n := by
  refine Nat.le_trans (List.length_filter_le _ _) ?_
  rw [List.length_map, List.length_range]
  exact Nat.le_refl n
theorem some_step (hc : Cup S c) (hL : S[L]? = some (.lst (st.1.map wordD))) (hK : S[K]? = some (.lst (st.2.map wordD))) (cl : L ≠ c) (ck : K ≠ c) (h5 : n ≤ 5) :
    ∃ S' m es, dwSome [some (.obj c), some q, some x, some (.obj L), some (.obj K), some (.lst ((leftW n st).map wordD)), some (.lst ((ablePs n st).map fun p => deedD (.turn p))), none, none, none] S = .nx (dwEnv c L K m n q x st (.lst ((ablePs n st).map fun p => deedD (.turn p)))) S' ∧ Dr S' c L K m n st es ∧ Kp c S S' ∧ es.length ≤ 50 ∧ S.length ≤ m := by
  have nn := ne_nil (x := .lst ((leftW n st).map wordD)) (S := S) (xs := (leftW n st).map wordD) rfl (layL_words _)
  have en := eq_nil (x := .obj L) (S := S) (xs := st.1.map wordD) (by simp [hL]) (layL_words _)
  have al := able_len n st
  have z1 : (ablePs n st).length + (ablePs n st).length ≤ sizeLine := Nat.le_trans (show _ ≤ 10 by omega) (by rw [sizeLine_eq]; omega)
  have z2 : (ablePs n st).length + (ablePs n st).length + 4 ≤ sizeLine := Nat.le_trans (show _ ≤ 14 by omega) (by rw [sizeLine_eq]; omega)
  have lc := (List.getElem?_eq_some_iff.mp hL).1
  have lk := (List.getElem?_eq_some_iff.mp hK).1
  have lcc : c < S.length := by obtain ⟨a, b, h1, _⟩ := hc.ex; exact (List.getElem?_eq_some_iff.mp h1).1
  have mk : ∀ (S1 : Sto) (es : List Deed), Cup S1 c → Kp c S S1 → (∀ e ∈ es, Gd n st e) → es.length ≤ 50 → Dr (S1 ++ [.lst (es.map deedD)]) c L K S1.length n st es := fun S1 es hc1 k1 hg hl =>
    ⟨hc1.app _, get_app _ (k1.kp _ _ cl hL), get_app _ (k1.kp _ _ ck hK), by simp, hg, by omega, cl, ck, by have := k1.len; omega, by have := k1.len; omega, by have := k1.len; omega⟩
  have g1 : ∀ e ∈ (ablePs n st).map Deed.turn ++ (ablePs n st).map Deed.turn, Gd n st e := fun e he => by
    rcases List.mem_append.mp he with z | z <;> obtain ⟨p, hp, rfl⟩ := List.mem_map.mp z <;> exact able_good hp
  by_cases h : st.1 = [] ∧ leftW n st ≠ []
  · obtain ⟨h0, h1⟩ := h
    obtain ⟨y, S1, s1, s2, s3, s4⟩ := some_lst (xs := (leftW n st).map wordD) hc (by simpa using h1) (by rw [List.length_map]; have := allW_le h5; have : (leftW n st).length ≤ (allW n).length := List.length_filter_le _ _; omega)
    obtain ⟨w, hw, rfl⟩ := List.mem_map.mp s2
    obtain ⟨w1, w2, w3⟩ := left_wd hw
    refine ⟨_, _, (ablePs n st).map Deed.turn ++ (ablePs n st).map Deed.turn ++ [.beg w, .beg w, .beg w, .beg w], ?_, mk S1 _ s3 s4 ?_ (by simp; omega), s4.trans (Kp.app _ _ _), by simp; omega, s4.len⟩
    · simp [dwSome, dwEnv, en, nn, h0, h1, s1, mul4, z1, z2, Nat.add_assoc] at z1 z2 ⊢
      simp [z1, z2, deedD, Function.comp_def]
    · intro e he
      rcases List.mem_append.mp he with z | z
      · exact g1 e z
      · have : e = .beg w := by simpa using z
        rw [this]
        exact ⟨w1, by simp [stepM, h0, w2]⟩
  · refine ⟨_, _, (ablePs n st).map Deed.turn ++ (ablePs n st).map Deed.turn, ?_, mk S _ hc (Kp.refl _ _) g1 (by simp; omega), Kp.app _ _ _, by simp; omega, Nat.le_refl _⟩
    by_cases h0 : st.1 = []
    · have h1 : leftW n st = [] := by
        by_cases h1 : leftW n st = []
        · exact h1
        · exact absurd ⟨h0, h1⟩ h
      simp [h1] at nn
      simp [dwSome, dwEnv, en, nn, h0, h1, z1, deedD, Function.comp_def]
    · simp [dwSome, dwEnv, en, nn, h0, z1, deedD, Function.comp_def]
end
theorem drawn_eq {S : Sto} {c k n : Nat} {cw : List (List Int)} {dd : List Deed} {st : LB} (hc : Cup S c) (h : CubeOk n cw) (hdd : ∀ e ∈ dd, DeedOk n e) (hle : dd.length ≤ 60) (hr : run ([], cw) dd = some st) (hk : S[k]? = some (.lst (dd.map deedD))) :
    ∃ S' y, t__law_drawn [.obj c, cubeD n cw, .obj k] S = .ok y S' ∧ (y = .non ∨ ∃ e, y = deedD e ∧ Gd n st e) ∧ Cup S' c ∧ Kp c S S' := by
  obtain ⟨T, a1, t1, t2, f⟩ := at_eq h hdd hle hr (S := S) (x := .obj k) (.inr ⟨k, rfl, hk⟩)
  have so : StOk n st := run_ok (start_ok h) hdd hr
  have rl := run_len hr
  have l4 := h.le
  have lcc : c < S.length := by obtain ⟨a, b, h1, _⟩ := hc.ex; exact (List.getElem?_eq_some_iff.mp h1).1
  have cT : Cup T c := by
    obtain ⟨a, b, h1, h2⟩ := hc.ex
    exact ⟨a, b, f.kp c _ (by simp) h1, h2⟩
  have kT : Kp c S T := ⟨f.len, fun i x _ q => f.kp i x (by simp) q⟩
  have cl := left_comp (v := 8) (δ := [some (.obj c), some (cubeD n cw), some (.obj k), some (.obj S.length), some (.obj (S.length + 1)), none, none, none, none, none]) h.n1 h.n5 rfl rfl rfl (by decide) (by simp) t1 t2
  have ca := able_comp (v := 9) (f := tupE (consA (conE (.str [116, 117, 114, 110])) (consA (varE 9) nilA))) (G := fun y => .tup [.str [116, 117, 114, 110], y]) (δ := [some (.obj c), some (cubeD n cw), some (.obj k), some (.obj S.length), some (.obj (S.length + 1)), some (.lst ((leftW n st).map wordD)), none, none, none, none]) h.n1 h.n5 so rfl rfl rfl (by decide) (by simp) t1 (fun p => by simp)
  obtain ⟨T1, m, es, b1, b2, b3, b4, b5⟩ := some_step (q := cubeD n cw) (x := .obj k) cT t1 t2 (by omega) (by omega) h.n5
  obtain ⟨T2, es2, c1, c2, c3, c4⟩ := bar_step (q := cubeD n cw) (x := .obj k) (ab := .lst ((ablePs n st).map fun p => deedD (.turn p))) b2 h.n5 (by omega)
  obtain ⟨T3, es3, e1, e2, e3, e4⟩ := free_step (q := cubeD n cw) (x := .obj k) (ab := .lst ((ablePs n st).map fun p => deedD (.turn p))) c2 so (by simp at rl; omega) (by omega)
  obtain ⟨T4, y, g1, g2, g3, g4⟩ := ret_step (q := cubeD n cw) (x := .obj k) (ab := .lst ((ablePs n st).map fun p => deedD (.turn p))) e2
  refine ⟨T4, y, ?_, g2, g3, ?_⟩
  · rw [drawn_def]
    have ca' : compE (itR2 (consA (conE (.int 1)) (consA (bin2 addA (bin2 ixD (varE 1) (conE (.int 0))) (conE (.int 1))) nilA))) [9] (bName 9) (andT (tst (bin2 neD (varE 3) (frzE (lstE nilA)))) (tst (bin2 (inA false) (callD t__law_turn 2 (consA (bin2 ixD (varE 3) (un1 negI (conE (.int 1)))) (consA (varE 9) nilA))) (varE 5)))) (tupE (consA (conE (.str [116, 117, 114, 110])) (consA (varE 9) nilA))) [some (.obj c), some (cubeD n cw), some (.obj k), some (.obj S.length), some (.obj (S.length + 1)), some (.lst ((leftW n st).map wordD)), none, none, none, none] T = .ok ((ablePs n st).map fun p => deedD (.turn p)) T := ca
    simp [a1, dwLeft, dwAble, cl, ca', b1, c1, e1, g1]
  · have r3 := (kT.trans b3)
    have lS : S.length ≤ m := Nat.le_trans f.len b5
    refine ⟨Nat.le_trans (Nat.le_trans (Nat.le_trans r3.len c3.len) e3.len) g4.len, fun i z hi q => ?_⟩
    have li := (List.getElem?_eq_some_iff.mp q).1
    exact g4.kp i z hi (e3.kp i z (by simp; omega) (c3.kp i z (by simp; omega) (r3.kp i z hi q)))
end K63
set_option Elab.async false
set_option linter.all false
set_option maxRecDepth 100000
set_option maxHeartbeats 1000000
set_option autoImplicit false
namespace K63
open L3 PySem L2
def lwA : SM := (seqS (setS 10 (mth0D popD (varE 5))) (seqS (dropS (mthD appD (varE 6) (consA (varE 10) nilA))) (ifS (notT (tst (callD (t__law_same 8) 2 (consA (meth0D "Desk" "undo" t_Desk_undo (varE 4)) (consA (varE 10) nilA))))) (retS (conE (.bl false))) nxS)))
def lwB : SM := (seqS (setS 10 (mth0D popD (varE 6))) (seqS (dropS (mthD appD (varE 5) (consA (varE 10) nilA))) (ifS (notT (tst (callD (t__law_same 8) 2 (consA (meth0D "Desk" "redo" t_Desk_redo (varE 4)) (consA (varE 10) nilA))))) (retS (conE (.bl false))) nxS)))
def lwC : SM := (seqS (parS 5 6 (consA (newE (addLE (varE 5) (frzE (lstE (consA (varE 9) nilA))))) (consA (newE (lstE nilA)) nilA))) (seqS (setS 11 (ifE (tst (bin2 eqD (bin2 ixD (varE 9) (conE (.int 0))) (conE (.str [116, 117, 114, 110])))) (bin2 ixD (bin2 ixD (callD t__law_at 2 (consA (varE 3) (consA (varE 5) nilA))) (conE (.int 0))) (un1 negI (conE (.int 1)))) (conE .non))) (ifS (notT (tst (callD (t__law_same 8) 2 (consA (callD t__law_do 2 (consA (varE 4) (consA (varE 9) nilA))) (consA (varE 11) nilA))))) (retS (conE (.bl false))) nxS)))
def lwD : SM := (ifS (notT (tst (callD t__law_is_as 3 (consA (varE 4) (consA (varE 3) (consA (varE 5) nilA)))))) (retS (conE (.bl false))) nxS)
def lwBody : SM := (seqS (parS 8 9 (consA (callD t__law_roll 2 (consA (varE 1) (consA (conE (.int 10)) nilA))) (consA (callD t__law_drawn 3 (consA (varE 1) (consA (varE 3) (consA (varE 5) nilA)))) nilA))) (seqS (ifS (andT (tst (bin2 ltA (varE 8) (conE (.int 2)))) (tst (bin2 neD (varE 5) (frzE (lstE nilA))))) lwA (ifS (andT (tst (bin2 ltA (varE 8) (conE (.int 4)))) (tst (bin2 neD (varE 6) (frzE (lstE nilA))))) lwB (ifS (tst (bin2 (isN true) (varE 9) (conE .non))) lwC nxS))) lwD))
def lwTurn : SM := (seqS (setS 3 (callD t__law_cube 2 (consA (varE 1) (consA (bin2 addA (conE (.int 1)) (callD t__law_roll 2 (consA (varE 1) (consA (conE (.int 5)) nilA)))) nilA)))) (seqS (par3S 4 5 6 (consA (makeD "Desk" t_Desk___init__ 2 (consA (varE 3) nilA)) (consA (newE (lstE nilA)) (consA (newE (lstE nilA)) nilA)))) (seqS (ifS (notT (tst (callD t__law_is_as 3 (consA (varE 4) (consA (varE 3) (consA (frzE (lstE nilA)) nilA)))))) (retS (conE (.bl false))) nxS) (forS (itR1 (consA (callD t__law_some 2 (consA (varE 1) (consA (frzE (lstE (consA (conE (.int 6)) (consA (conE (.int 15)) (consA (conE (.int 30)) nilA))))) nilA))) nilA)) (bName 7) lwBody))))
theorem law_def : t_law = fnD 12 (seqS (setS 1 (callD t__law_cup 1 (consA (varE 0) nilA))) (seqS (ifS (notT (tst (call0D t__law_rows_right))) (retS (conE (.bl false))) nxS) (seqS (forS (itR1 (consA (conE (.int 2)) nilA)) (bName 2) lwTurn) (retS (conE (.bl true)))))) := rfl

def dueD (e : Deed) (st : LB) : D := match e with
  | .turn _ => match st.1.getLast? with
    | some w => wordD w
    | none => .non
  | _ => .non
section
variable {S : Sto} {d i1 i2 i3 i4 i5 n : Nat} {cw : List (List Int)} {dd tk : List Deed} {st : LB}
theorem law_do_eq (h : Dk S d i1 i2 i3 i4 i5 n cw dd tk st) {e : Deed} (he : DeedOk n e) {st' : LB} (hs : stepM st e = some st') :
    ∃ S', t__law_do [.obj d, deedD e] S = .ok (dueD e st') S' ∧ DS S' d i1 S.length i3 i4 i5 n cw (dd ++ [e]) [] st' ∧ Fr [d, i1, i3, i4, i5] S S' := by
  have q0 := h.ds.ins
  have c0 : ∀ x y : D, L2.atI [x, y] 0 = some x := fun _ _ => rfl
  have c1 : ∀ x y : D, L2.atI [x, y] 1 = some y := fun _ _ => rfl
  cases e with
  | beg w =>
    obtain ⟨S', a1, a2, a3⟩ := begin_eq h he hs
    refine ⟨S', ?_, a2, a3⟩
    simp [t__law_do, b__law_do, deedD, c0, c1, eqS, q0, a1, dueD]
  | turn p =>
    obtain ⟨w, hw⟩ := turn_last hs
    obtain ⟨S', a1, a2, a3⟩ := turn_eq h he hs hw
    refine ⟨S', ?_, a2, a3⟩
    simp [t__law_do, b__law_do, deedD, c0, c1, eqS, q0, a1, dueD, hw]
  | bar w =>
    obtain ⟨S', a1, a2, a3⟩ := bar_eq h he hs
    refine ⟨S', ?_, a2, a3⟩
    simp [t__law_do, b__law_do, deedD, c0, c1, eqS, q0, a1, dueD]
  | free w =>
    obtain ⟨S', a1, a2, a3⟩ := free_eq h he hs
    refine ⟨S', ?_, a2, a3⟩
    simp [t__law_do, b__law_do, deedD, c0, c1, eqS, q0, a1, dueD]
end
theorem nin2 {a k5 k6 : Nat} (h5 : ¬ k5 = a) (h6 : ¬ k6 = a) : a ∉ [k5, k6] := by
  simp only [List.mem_cons, List.not_mem_nil, or_false, not_or]
  exact ⟨fun z => h5 z.symm, fun z => h6 z.symm⟩
theorem nin6 {a d i1 i2 l : Nat} (h1 : ¬ a = d) (h2 : ¬ a = i1) (h3 : ¬ a = i2) (h : a < l) : a ∉ [d, i1, i2, l, l + 1, l + 2] := by
  simp only [List.mem_cons, List.not_mem_nil, or_false, not_or]
  exact ⟨h1, h2, h3, by omega, by omega, by omega⟩
theorem nin3 {a d i1 i2 : Nat} (h1 : ¬ a = d) (h2 : ¬ a = i1) (h3 : ¬ a = i2) : a ∉ [d, i1, i2] := by
  simp only [List.mem_cons, List.not_mem_nil, or_false, not_or]
  exact ⟨h1, h2, h3⟩
/-- what holds between the steps -/
structure In (S : Sto) (c d k5 k6 n : Nat) (cw : List (List Int)) (dd tk : List Deed) (st : LB) (i : Nat) : Prop where
  cup : Cup S c
  dk : ∃ i1 i2 i3 i4 i5, Dk S d i1 i2 i3 i4 i5 n cw dd tk st ∧ c ∉ [d, i1, i2, i3, i4, i5] ∧ k5 ∉ [d, i1, i2, i3, i4, i5] ∧ k6 ∉ [d, i1, i2, i3, i4, i5]
  s5 : S[k5]? = some (.lst (dd.map deedD))
  s6 : S[k6]? = some (.lst (tk.map deedD))
  n5 : c ≠ k5
  n6 : c ≠ k6
  n56 : k5 ≠ k6
  rt : ∃ st', run st tk.reverse = some st'
  ot : ∀ e ∈ tk, DeedOk n e
  le : dd.length + tk.length ≤ i
theorem Cup.fr {S S' : Sto} {c : Nat} {ks : List Nat} (h : Cup S c) (f : Fr ks S S') (hc : c ∉ ks) : Cup S' c := by
  obtain ⟨a, b, h1, h2⟩ := h.ex
  exact ⟨a, b, f.kp c _ hc h1, h2⟩
theorem Kp.fr1 {c : Nat} {S S' : Sto} (k : Kp c S S') : Fr [c] S S' := ⟨k.len, fun i x hi q => k.kp i x (fun z => hi (by simp [z])) q⟩
section
variable {S : Sto} {c d k5 k6 n i : Nat} {cw : List (List Int)} {dd tk : List Deed} {st : LB}
theorem In.fr {S' : Sto} (h : In S c d k5 k6 n cw dd tk st i) (f : Fr [c] S S') (hc : Cup S' c) : In S' c d k5 k6 n cw dd tk st i := by
  obtain ⟨i1, i2, i3, i4, i5, D, n1, n2, n3⟩ := h.dk
  simp only [List.mem_cons, List.not_mem_nil, or_false, not_or] at n1
  exact ⟨hc, ⟨i1, i2, i3, i4, i5, D.fr f (by simp; omega) (by simp; omega) (by simp; omega) (by simp; omega) (by simp; omega) (by simp; omega), by simp; omega, n2, n3⟩, f.kp _ _ (by simp; have := h.n5; omega) h.s5, f.kp _ _ (by simp; have := h.n6; omega) h.s6, h.n5, h.n6, h.n56, h.rt, h.ot, h.le⟩
/-- the steps' frame -/
def lwEnv (s0 a2 a7 a8 a9 a10 a11 : Option D) (c d k5 k6 n : Nat) (cw : List (List Int)) : EnvD := [s0, some (.obj c), a2, some (cubeD n cw), some (.obj d), some (.obj k5), some (.obj k6), a7, a8, a9, a10, a11]
variable {s0 a2 a7 a8 a9 a10 a11 : Option D}
theorem lwD_eq (h : In S c d k5 k6 n cw dd tk st i) (hi : i ≤ 30) : ∃ S', lwD (lwEnv s0 a2 a7 a8 a9 a10 a11 c d k5 k6 n cw) S = .nx (lwEnv s0 a2 a7 a8 a9 a10 a11 c d k5 k6 n cw) S' ∧ In S' c d k5 k6 n cw dd tk st i := by
  obtain ⟨i1, i2, i3, i4, i5, D, n1, n2, n3⟩ := h.dk
  have hle := h.le
  obtain ⟨S', a1, f⟩ := is_as_eq D (by omega) (x := .obj k5) (.inr ⟨k5, rfl, h.s5⟩)
  refine ⟨S', ?_, h.fr (f.mono (by simp)) (h.cup.fr f (by simp))⟩
  simp [lwD, lwEnv, a1]
theorem lwA_eq (h : In S c d k5 k6 n cw dd tk st i) (hi : i ≤ 30) (hd : dd ≠ []) : ∃ S' l dd' tk' st', lwA (lwEnv s0 a2 a7 a8 a9 a10 a11 c d k5 k6 n cw) S = .nx (lwEnv s0 a2 a7 a8 a9 (some l) a11 c d k5 k6 n cw) S' ∧ In S' c d k5 k6 n cw dd' tk' st' i := by
  obtain ⟨i1, i2, i3, i4, i5, D, n1, n2, n3⟩ := h.dk
  have hle := h.le
  have q0 := D.ds.ins
  obtain ⟨l0, l1, l2, l3, l4, l5⟩ := D.ds.lt
  have h5 := h.s5
  have h6 := h.s6
  have m5 := h.n5
  have m6 := h.n6
  have m56 := h.n56
  have j5 := (List.getElem?_eq_some_iff.mp h5).1
  have j6 := (List.getElem?_eq_some_iff.mp h6).1
  have jc : c < S.length := by obtain ⟨a, b, h1, _⟩ := h.cup.ex; exact (List.getElem?_eq_some_iff.mp h1).1
  obtain ⟨dd', e, rfl⟩ : ∃ dd' e, dd = dd' ++ [e] := ⟨dd.dropLast, dd.getLast hd, (List.dropLast_concat_getLast hd).symm⟩
  simp only [List.mem_cons, List.not_mem_nil, or_false, not_or] at n1 n2 n3
  obtain ⟨a1, a2, a3, a4, a5, a6⟩ := n1
  obtain ⟨b1, b2, b3, b4, b5, b6⟩ := n2
  obtain ⟨e1, e2, e3, e4, e5, e6⟩ := n3
  simp only [List.length_append, List.length_singleton] at hle
  obtain ⟨T, hT⟩ : ∃ T : Sto, T = (S.set k5 (.lst (dd'.map deedD))).set k6 (.lst ((tk ++ [e]).map deedD)) := ⟨_, rfl⟩
  have fT : Fr [k5, k6] S T := by rw [hT]; exact (Fr.set S _ (by simp)).trans (Fr.set _ _ (by simp))
  have DT : Dk T d i1 i2 i3 i4 i5 n cw (dd' ++ [e]) tk st := D.fr fT (nin2 b1 e1) (nin2 b2 e2) (nin2 b3 e3) (nin2 b4 e4) (nin2 b5 e5) (nin2 b6 e6)
  have lT : T.length = S.length := by simp [hT]
  obtain ⟨st', S', r1, u1, u2, u3⟩ := undo_eq DT (by clear a1 a2 a3 a4 a5 a6 b1 b2 b3 b4 b5 b6 e1 e2 e3 e4 e5 e6; omega)
  rw [lT] at u2
  have hru := D.ru
  rw [run_app, r1] at hru
  have hs : stepM st' e = some st := by
    simp only [run] at hru
    split at hru
    · rename_i w hw; rw [hw]; exact hru
    · cases hru
  have T5 : T[k5]? = some (.lst (dd'.map deedD)) := by rw [hT]; exact sg m56 (ss j5)
  have T6 : T[k6]? = some (.lst ((tk ++ [e]).map deedD)) := by rw [hT]; exact ss (by simpa using j6)
  have jd := l0
  have o1 : c ∉ [k5, k6] := nin2 (Ne.symm m5) (Ne.symm m6)
  have o2 : c ∉ [d, i1, i2] := nin3 a1 a2 a3
  have o3 : k5 ∉ [d, i1, i2] := nin3 b1 b2 b3
  have o4 : k6 ∉ [d, i1, i2] := nin3 e1 e2 e3
  have o5 : c ∉ [d, i1, i2, S.length, S.length + 1, S.length + 2] := nin6 a1 a2 a3 jc
  have o6 : k5 ∉ [d, i1, i2, S.length, S.length + 1, S.length + 2] := nin6 b1 b2 b3 j5
  have o7 : k6 ∉ [d, i1, i2, S.length, S.length + 1, S.length + 2] := nin6 e1 e2 e3 j6
  have o8 : Dk S' d i1 i2 S.length (S.length + 1) (S.length + 2) n cw dd' (tk ++ [e]) st' := ⟨u2, D.cu, fun x hx => D.ok x (by simp [hx]), r1, by clear a1 a2 a3 a4 a5 a6 b1 b2 b3 b4 b5 b6 e1 e2 e3 e4 e5 e6; omega⟩
  refine ⟨S', deedD e, dd', tk ++ [e], st', ?_, ⟨(h.cup.fr fT o1).fr u3 o2, ⟨i1, i2, S.length, S.length + 1, S.length + 2, o8, o5, o6, o7⟩, u3.kp _ _ o3 T5, u3.kp _ _ o4 T6, m5, m6, m56, ?_, ?_, by simp only [List.length_append, List.length_singleton]; clear a1 a2 a3 a4 a5 a6 b1 b2 b3 b4 b5 b6 e1 e2 e3 e4 e5 e6; omega⟩⟩
  · have sm := same_refl 8 (deedD e) S' ((pl_deed (D.ok e (by simp)) D.cu.n5).up.up.up.up.up)
    have qT := DT.ds.ins
    have lb : (dd'.map deedD ++ [deedD e])[dd'.length]? = some (deedD e) := by
      rw [List.getElem?_append_right (by simp)]; simp
    have z1 : tk.length < sizeLine := Nat.lt_of_le_of_lt (show _ ≤ 30 by clear a1 a2 a3 a4 a5 a6 b1 b2 b3 b4 b5 b6 e1 e2 e3 e4 e5 e6; omega) (by rw [sizeLine_eq]; omega)
    have em : (dd' ++ [e]).map deedD = dd'.map deedD ++ [deedD e] := by simp
    have em2 : (tk ++ [e]).map deedD = tk.map deedD ++ [deedD e] := by simp
    have g6 : ∀ m, (S.set k5 m)[k6]? = some (.lst (tk.map deedD)) := fun m => sg (Ne.symm m56) h6
    have Te : (S.set k5 (.lst (dd'.map deedD))).set k6 (.lst (tk.map deedD ++ [deedD e])) = T := by rw [← em2, hT]
    rw [em] at h5
    simp [lwA, lwEnv, h5, lb, g6, z1, Te, qT, u1, sm]
  · obtain ⟨s2, hs2⟩ := h.rt
    refine ⟨s2, ?_⟩
    rw [List.reverse_append]
    show run st' (e :: tk.reverse) = _
    simp only [run, hs]
    exact hs2
  · intro x hx
    rcases List.mem_append.mp hx with z | z
    · exact h.ot x z
    · rw [List.mem_singleton.mp z]; exact D.ok e (by simp)
end
end K63
set_option Elab.async false
set_option linter.all false
set_option maxRecDepth 100000
set_option maxHeartbeats 1000000
set_option autoImplicit false
namespace K63
open L3 PySem L2
section
variable {S : Sto} {c d k5 k6 n i : Nat} {cw : List (List Int)} {dd tk : List Deed} {st : LB}
variable {s0 a2 a7 a8 a9 a10 a11 : Option D}
theorem lwB_eq (h : In S c d k5 k6 n cw dd tk st i) (hi : i ≤ 30) (hd : tk ≠ []) : ∃ S' l dd' tk' st', lwB (lwEnv s0 a2 a7 a8 a9 a10 a11 c d k5 k6 n cw) S = .nx (lwEnv s0 a2 a7 a8 a9 (some l) a11 c d k5 k6 n cw) S' ∧ In S' c d k5 k6 n cw dd' tk' st' i := by
  obtain ⟨i1, i2, i3, i4, i5, D, n1, n2, n3⟩ := h.dk
  have hle := h.le
  have q0 := D.ds.ins
  have h5 := h.s5
  have h6 := h.s6
  have m5 := h.n5
  have m6 := h.n6
  have m56 := h.n56
  have j5 := (List.getElem?_eq_some_iff.mp h5).1
  have j6 := (List.getElem?_eq_some_iff.mp h6).1
  obtain ⟨tk', e, rfl⟩ : ∃ tk' e, tk = tk' ++ [e] := ⟨tk.dropLast, tk.getLast hd, (List.dropLast_concat_getLast hd).symm⟩
  have n1' := n1
  have n2' := n2
  have n3' := n3
  simp only [List.mem_cons, List.not_mem_nil, or_false, not_or] at n1 n2 n3
  obtain ⟨a1, a2, a3, a4, a5, a6⟩ := n1
  obtain ⟨b1, b2, b3, b4, b5, b6⟩ := n2
  obtain ⟨e1, e2, e3, e4, e5, e6⟩ := n3
  simp only [List.length_append, List.length_singleton] at hle
  obtain ⟨T, hT⟩ : ∃ T : Sto, T = (S.set k6 (.lst (tk'.map deedD))).set k5 (.lst ((dd ++ [e]).map deedD)) := ⟨_, rfl⟩
  have fT : Fr [k5, k6] S T := by rw [hT]; exact (Fr.set S _ (by simp)).trans (Fr.set _ _ (by simp))
  have DT : Dk T d i1 i2 i3 i4 i5 n cw dd (tk' ++ [e]) st := D.fr fT (nin2 b1 e1) (nin2 b2 e2) (nin2 b3 e3) (nin2 b4 e4) (nin2 b5 e5) (nin2 b6 e6)
  obtain ⟨s2, hs2⟩ := h.rt
  rw [List.reverse_append] at hs2
  have hs2 : run st (e :: tk'.reverse) = some s2 := hs2
  have he := h.ot e (by simp)
  obtain ⟨st', hs, hs3⟩ : ∃ st', stepM st e = some st' ∧ run st' tk'.reverse = some s2 := by
    simp only [run] at hs2
    cases hq : stepM st e with
    | none => rw [hq] at hs2; cases hs2
    | some st' => rw [hq] at hs2; exact ⟨st', rfl, hs2⟩
  obtain ⟨S', u1, u2, u3⟩ := redo_eq DT he hs
  have T5 : T[k5]? = some (.lst ((dd ++ [e]).map deedD)) := by rw [hT]; exact ss (by simpa using j5)
  have T6 : T[k6]? = some (.lst (tk'.map deedD)) := by rw [hT]; exact sg (Ne.symm m56) (ss j6)
  have hle2 : dd.length + 1 ≤ 60 := by clear a1 a2 a3 a4 a5 a6 b1 b2 b3 b4 b5 b6 e1 e2 e3 e4 e5 e6; omega
  have o1 : c ∉ [k5, k6] := nin2 (Ne.symm m5) (Ne.symm m6)
  have o8 : Dk S' d i1 i2 i3 i4 i5 n cw (dd ++ [e]) tk' st' := ⟨u2, D.cu, fun x hx => by
    rcases List.mem_append.mp hx with z | z
    · exact D.ok x z
    · rw [List.mem_singleton.mp z]; exact he, run_snoc D.ru hs, by simp only [List.length_append, List.length_singleton]; exact hle2⟩
  refine ⟨S', deedD e, dd ++ [e], tk', st', ?_, ⟨(h.cup.fr fT o1).fr u3 n1', ⟨i1, i2, i3, i4, i5, o8, n1', n2', n3'⟩, u3.kp _ _ n2' T5, u3.kp _ _ n3' T6, m5, m6, m56, ⟨s2, hs3⟩, fun x hx => h.ot x (by simp [hx]), by simp only [List.length_append, List.length_singleton]; clear a1 a2 a3 a4 a5 a6 b1 b2 b3 b4 b5 b6 e1 e2 e3 e4 e5 e6; omega⟩⟩
  have sm := same_refl 8 (deedD e) S' ((pl_deed he D.cu.n5).up.up.up.up.up)
  have qT := DT.ds.ins
  have lb : (tk'.map deedD ++ [deedD e])[tk'.length]? = some (deedD e) := by
    rw [List.getElem?_append_right (by simp)]; simp
  have z1 : dd.length < sizeLine := Nat.lt_of_le_of_lt (show _ ≤ 60 from Nat.le_of_succ_le hle2) (by rw [sizeLine_eq]; decide)
  have em : (tk' ++ [e]).map deedD = tk'.map deedD ++ [deedD e] := by simp
  have em2 : (dd ++ [e]).map deedD = dd.map deedD ++ [deedD e] := by simp
  have g6 : ∀ m, (S.set k6 m)[k5]? = some (.lst (dd.map deedD)) := fun m => sg m56 h5
  have Te : (S.set k6 (.lst (tk'.map deedD))).set k5 (.lst (dd.map deedD ++ [deedD e])) = T := by rw [← em2, hT]
  rw [em] at h6
  clear a1 a2 a3 a4 a5 a6 b1 b2 b3 b4 b5 b6 e1 e2 e3 e4 e5 e6 n1' n2' n3'
  simp [lwB, lwEnv, h6, lb, g6, z1, Te, qT, u1, sm]
/-- a new deed -/
theorem lwC_eq (h : In S c d k5 k6 n cw dd tk st i) (hi : i < 30) {e : Deed} (hg : Gd n st e) : ∃ S' l dd' tk' st' k5' k6', lwC (lwEnv s0 a2 a7 a8 (some (deedD e)) a10 a11 c d k5 k6 n cw) S = .nx (lwEnv s0 a2 a7 a8 (some (deedD e)) a10 (some l) c d k5' k6' n cw) S' ∧ In S' c d k5' k6' n cw dd' tk' st' (i + 1) := by
  obtain ⟨i1, i2, i3, i4, i5, D, n1, n2, n3⟩ := h.dk
  have hle := h.le
  obtain ⟨he, hs⟩ := hg
  obtain ⟨st', hs⟩ := Option.isSome_iff_exists.mp hs
  have h5 := h.s5
  obtain ⟨l0, l1, l2, l3, l4, l5⟩ := D.ds.lt
  have jc : c < S.length := by obtain ⟨a, b, h1, _⟩ := h.cup.ex; exact (List.getElem?_eq_some_iff.mp h1).1
  have hle2 : dd.length + 1 ≤ 60 := by omega
  have ok2 : ∀ x ∈ dd ++ [e], DeedOk n x := fun x hx => by
    rcases List.mem_append.mp hx with z | z
    · exact D.ok x z
    · rw [List.mem_singleton.mp z]; exact he
  have r2 := run_snoc D.ru hs
  obtain ⟨T, hT⟩ : ∃ T : Sto, T = S ++ [.lst ((dd ++ [e]).map deedD), .lst []] := ⟨_, rfl⟩
  have lT : T.length = S.length + 2 := by rw [hT]; simp
  have fT : Fr [] S T := by rw [hT]; exact Fr.app _ _ _
  have T5 : T[S.length]? = some (.lst ((dd ++ [e]).map deedD)) := by rw [hT]; simp
  have T6 : T[S.length + 1]? = some (.lst (([] : List Deed).map deedD)) := by rw [hT]; simp
  have c0 : ∀ x y : L3.D, L2.atI [x, y] 0 = some x := fun _ _ => rfl
  have em2 : (dd ++ [e]).map deedD = dd.map deedD ++ [deedD e] := by simp
  have z1 : dd.length + 1 ≤ sizeLine := Nat.le_trans hle2 (by rw [sizeLine_eq]; decide)
  have hT' : S ++ [.lst (dd.map deedD ++ [deedD e]), .lst []] = T := by rw [hT, em2]
  -- what is due
  obtain ⟨T1, dl, f1, d1⟩ : ∃ T1, True ∧ Fr [] T T1 ∧ ifE (tst (bin2 eqD (bin2 ixD (varE 9) (conE (.int 0))) (conE (.str [116, 117, 114, 110])))) (bin2 ixD (bin2 ixD (callD t__law_at 2 (consA (varE 3) (consA (varE 5) nilA))) (conE (.int 0))) (un1 negI (conE (.int 1)))) (conE .non) (lwEnv s0 a2 a7 a8 (some (deedD e)) a10 a11 c d S.length (S.length + 1) n cw) T = .ok (dueD e st') T1 := by
    cases e with
    | turn p =>
      obtain ⟨w, hw⟩ := turn_last hs
      obtain ⟨T1, a1, t1, t2, f⟩ := at_eq D.cu ok2 (by simpa using hle2) r2 (S := T) (x := .obj S.length) (.inr ⟨_, rfl, T5⟩)
      refine ⟨T1, trivial, f, ?_⟩
      have lw := last_word _ _ hw
      simp [lwEnv, deedD, c0, eqS, a1, t1, lw, dueD, hw]
    | beg w => exact ⟨T, trivial, Fr.refl _ _, by simp [lwEnv, deedD, c0, eqS, dueD]⟩
    | bar w => exact ⟨T, trivial, Fr.refl _ _, by simp [lwEnv, deedD, c0, eqS, dueD]⟩
    | free w => exact ⟨T, trivial, Fr.refl _ _, by simp [lwEnv, deedD, c0, eqS, dueD]⟩
  have f2 := fT.trans f1
  have DT : Dk T1 d i1 i2 i3 i4 i5 n cw dd tk st := D.fr f2 (by simp) (by simp) (by simp) (by simp) (by simp) (by simp)
  obtain ⟨S', u1, u2, u3⟩ := law_do_eq DT he hs
  have lT1 : S.length + 2 ≤ T1.length := by rw [← lT]; exact f1.len
  have o8 : Dk S' d i1 T1.length i3 i4 i5 n cw (dd ++ [e]) [] st' := ⟨u2, D.cu, ok2, r2, by simpa using hle2⟩
  simp only [List.mem_cons, List.not_mem_nil, or_false, not_or] at n1
  obtain ⟨a1, a2', a3, a4, a5, a6⟩ := n1
  have p1 : c ∉ [d, i1, i3, i4, i5] := by simp [a1, a2', a4, a5, a6]
  have p2 : S.length ∉ [d, i1, i3, i4, i5] := by clear a1 a2' a3 a4 a5 a6 n2 n3; simp only [List.mem_cons, List.not_mem_nil, or_false, not_or]; exact ⟨by omega, by omega, by omega, by omega, by omega⟩
  have p3 : S.length + 1 ∉ [d, i1, i3, i4, i5] := by clear a1 a2' a3 a4 a5 a6 n2 n3; simp only [List.mem_cons, List.not_mem_nil, or_false, not_or]; exact ⟨by omega, by omega, by omega, by omega, by omega⟩
  have p4 : c ∉ [d, i1, T1.length, i3, i4, i5] := by
    simp only [List.mem_cons, List.not_mem_nil, or_false, not_or]
    exact ⟨a1, a2', by clear a1 a2' a3 a4 a5 a6 n2 n3; omega, a4, a5, a6⟩
  have p5 : S.length ∉ [d, i1, T1.length, i3, i4, i5] := by clear a1 a2' a3 a4 a5 a6 n2 n3; simp only [List.mem_cons, List.not_mem_nil, or_false, not_or]; exact ⟨by omega, by omega, by omega, by omega, by omega, by omega⟩
  have p6 : S.length + 1 ∉ [d, i1, T1.length, i3, i4, i5] := by clear a1 a2' a3 a4 a5 a6 n2 n3; simp only [List.mem_cons, List.not_mem_nil, or_false, not_or]; exact ⟨by omega, by omega, by omega, by omega, by omega, by omega⟩
  refine ⟨S', dueD e st', dd ++ [e], [], st', S.length, S.length + 1, ?_, ⟨(h.cup.fr f2 (by simp)).fr u3 p1, ⟨i1, T1.length, i3, i4, i5, o8, p4, p5, p6⟩, u3.kp _ _ p2 (f1.kp _ _ (by simp) T5), u3.kp _ _ p3 (f1.kp _ _ (by simp) T6), by clear a1 a2' a3 a4 a5 a6 n2 n3; omega, by clear a1 a2' a3 a4 a5 a6 n2 n3; omega, by omega, ⟨st', rfl⟩, (fun _ h => nomatch h), by clear a1 a2' a3 a4 a5 a6 n2 n3; simp; omega⟩⟩
  have pd : Pl 8 (dueD e st') := by
    have hso : StOk n st' := step_ok D.so he hs
    cases e with
    | turn p =>
      obtain ⟨w, hw⟩ := turn_last hs
      simp only [dueD, hw]
      exact (pl_word (hso.l w (List.mem_of_getLast? hw)) D.cu.n5).up.up.up.up.up.up
    | beg w => exact pl_non.up.up.up.up.up.up.up
    | bar w => exact pl_non.up.up.up.up.up.up.up
    | free w => exact pl_non.up.up.up.up.up.up.up
  have sm := same_refl 8 (dueD e st') S' pd
  have d1' := d1
  unfold lwEnv at d1'
  clear a1 a2' a3 a4 a5 a6 n2 n3 p1 p2 p3 p4 p5 p6
  simp [lwC, lwEnv, h5, z1, hT', d1', u1, sm, -e_ifE]
end
end K63
set_option Elab.async false
set_option linter.all false
set_option maxRecDepth 100000
set_option maxHeartbeats 1000000
set_option autoImplicit false
namespace K63
open L3 PySem L2
@[simp] theorem notN_deed (e : Deed) (S : Sto) : isN true (deedD e) .non S = .ok (.bl true) S := by cases e <;> rfl
section
variable {S : Sto} {c d k5 k6 n i : Nat} {cw : List (List Int)} {dd tk : List Deed} {st : LB}
variable {s0 a2 a7 a8 a9 a10 a11 : Option D}
theorem In.up (h : In S c d k5 k6 n cw dd tk st i) : In S c d k5 k6 n cw dd tk st (i + 1) := ⟨h.cup, h.dk, h.s5, h.s6, h.n5, h.n6, h.n56, h.rt, h.ot, Nat.le_succ_of_le h.le⟩
def At (s0 a2 : Option D) (c d n : Nat) (cw : List (List Int)) (i : Nat) (δ : EnvD) (S : Sto) : Prop := ∃ a7 a8 a9 a10 a11 k5 k6 dd tk st, δ = lwEnv s0 a2 a7 a8 a9 a10 a11 c d k5 k6 n cw ∧ In S c d k5 k6 n cw dd tk st i
theorem body_eq (h : In S c d k5 k6 n cw dd tk st i) (hi : i < 30) : ∃ δ' S', lwBody (lwEnv s0 a2 a7 a8 a9 a10 a11 c d k5 k6 n cw) S = .nx δ' S' ∧ At s0 a2 c d n cw (i + 1) δ' S' := by
  obtain ⟨r, S1, r1, r2, r3, r4, r5⟩ := roll_eq (m := 10) h.cup (by decide) (by decide)
  have I1 := h.fr r5.fr1 r4
  obtain ⟨i1, i2, i3, i4, i5, D1, _, _, _⟩ := I1.dk
  obtain ⟨S2, y, e1, e2, e3, e4⟩ := drawn_eq I1.cup D1.cu D1.ok D1.le D1.ru I1.s5
  have I2 := I1.fr e4.fr1 e3
  have nd := ne_nil (x := .obj k5) (S := S2) (xs := dd.map deedD) (by simp [I2.s5]) (layL_deeds _)
  have nt := ne_nil (x := .obj k6) (S := S2) (xs := tk.map deedD) (by simp [I2.s6]) (layL_deeds _)
  have pre : ∀ s s', seqS (parS 8 9 (consA (callD t__law_roll 2 (consA (varE 1) (consA (conE (.int 10)) nilA))) (consA (callD t__law_drawn 3 (consA (varE 1) (consA (varE 3) (consA (varE 5) nilA)))) nilA))) (seqS s s') (lwEnv s0 a2 a7 a8 a9 a10 a11 c d k5 k6 n cw) S = seqS s s' (lwEnv s0 a2 a7 (some (.int r)) (some y) a10 a11 c d k5 k6 n cw) S2 := fun s s' => by
    rw [e_seqS]
    simp [lwEnv, r1, e1, -e_seqS]
  have g8 : ∀ z9 z10 z11, (lwEnv s0 a2 a7 (some (.int r)) z9 z10 z11 c d k5 k6 n cw)[8]? = some (some (.int r)) := fun _ _ _ => rfl
  have g9 : ∀ z9 z10 z11, (lwEnv s0 a2 a7 (some (.int r)) (some z9) z10 z11 c d k5 k6 n cw)[9]? = some (some z9) := fun _ _ _ => rfl
  have g5 : ∀ z9 z10 z11, (lwEnv s0 a2 a7 (some (.int r)) z9 z10 z11 c d k5 k6 n cw)[5]? = some (some (.obj k5)) := fun _ _ _ => rfl
  have g6 : ∀ z9 z10 z11, (lwEnv s0 a2 a7 (some (.int r)) z9 z10 z11 c d k5 k6 n cw)[6]? = some (some (.obj k6)) := fun _ _ _ => rfl
  have fin : ∀ (z9 z10 z11 : Option D) (m5 m6 : Nat) (dd' tk' : List Deed) (st' : LB) (S3 : Sto), In S3 c d m5 m6 n cw dd' tk' st' (i + 1) → ∃ S4, lwD (lwEnv s0 a2 a7 (some (.int r)) z9 z10 z11 c d m5 m6 n cw) S3 = .nx (lwEnv s0 a2 a7 (some (.int r)) z9 z10 z11 c d m5 m6 n cw) S4 ∧ In S4 c d m5 m6 n cw dd' tk' st' (i + 1) := fun z9 z10 z11 m5 m6 dd' tk' st' S3 h3 => lwD_eq h3 (by omega)
  unfold lwBody
  rw [pre]
  by_cases hA : r < 2 ∧ dd ≠ []
  · obtain ⟨S3, l, dd', tk', st', x1, x2⟩ := lwA_eq (s0 := s0) (a2 := a2) (a7 := a7) (a8 := some (.int r)) (a9 := some y) (a10 := a10) (a11 := a11) I2 (by omega) hA.2
    obtain ⟨S4, y1, y2⟩ := fin (some y) (some l) a11 k5 k6 dd' tk' st' S3 x2.up
    refine ⟨_, S4, ?_, a7, some (.int r), some y, some l, a11, k5, k6, dd', tk', st', rfl, y2⟩
    simp [g8, g5, hA.1, hA.2, nd, x1, y1]
  · by_cases hB : r < 4 ∧ tk ≠ []
    · obtain ⟨S3, l, dd', tk', st', x1, x2⟩ := lwB_eq (s0 := s0) (a2 := a2) (a7 := a7) (a8 := some (.int r)) (a9 := some y) (a10 := a10) (a11 := a11) I2 (by omega) hB.2
      obtain ⟨S4, y1, y2⟩ := fin (some y) (some l) a11 k5 k6 dd' tk' st' S3 x2.up
      refine ⟨_, S4, ?_, a7, some (.int r), some y, some l, a11, k5, k6, dd', tk', st', rfl, y2⟩
      by_cases hr : r < 2
      · have hd : dd = [] := by
          by_cases q : dd = []
          · exact q
          · exact absurd ⟨hr, q⟩ hA
        simp [g8, g5, g6, hr, hd, nd, nt, hB.1, hB.2, x1, y1]
      · simp [g8, g5, g6, hr, nt, hB.1, hB.2, x1, y1]
    · have cA : ∀ s s' : SM, ifS (andT (tst (bin2 ltA (varE 8) (conE (.int 2)))) (tst (bin2 neD (varE 5) (frzE (lstE nilA))))) s s' (lwEnv s0 a2 a7 (some (.int r)) (some y) a10 a11 c d k5 k6 n cw) S2 = s' (lwEnv s0 a2 a7 (some (.int r)) (some y) a10 a11 c d k5 k6 n cw) S2 := fun s s' => by
        by_cases hr : r < 2
        · have hd : dd = [] := by
            by_cases q : dd = []
            · exact q
            · exact absurd ⟨hr, q⟩ hA
          simp [g8, g5, hr, hd, nd]
        · simp [g8, g5, hr]
      have cB : ∀ s s' : SM, ifS (andT (tst (bin2 ltA (varE 8) (conE (.int 4)))) (tst (bin2 neD (varE 6) (frzE (lstE nilA))))) s s' (lwEnv s0 a2 a7 (some (.int r)) (some y) a10 a11 c d k5 k6 n cw) S2 = s' (lwEnv s0 a2 a7 (some (.int r)) (some y) a10 a11 c d k5 k6 n cw) S2 := fun s s' => by
        by_cases hr : r < 4
        · have hd : tk = [] := by
            by_cases q : tk = []
            · exact q
            · exact absurd ⟨hr, q⟩ hB
          simp [g8, g6, hr, hd, nt]
        · simp [g8, g6, hr]
      rw [e_seqS, cA, cB]
      rcases e2 with e2 | ⟨e, e2, hg⟩
      · subst e2
        obtain ⟨S4, y1, y2⟩ := fin (some .non) a10 a11 k5 k6 dd tk st S2 I2.up
        refine ⟨_, S4, ?_, a7, some (.int r), some .non, a10, a11, k5, k6, dd, tk, st, rfl, y2⟩
        simp [g9, y1]
      · subst e2
        obtain ⟨S3, l, dd', tk', st', k5', k6', x1, x2⟩ := lwC_eq (s0 := s0) (a2 := a2) (a7 := a7) (a8 := some (.int r)) (a10 := a10) (a11 := a11) I2 hi hg
        obtain ⟨S4, y1, y2⟩ := fin (some (deedD e)) a10 (some l) k5' k6' dd' tk' st' S3 x2
        refine ⟨_, S4, ?_, a7, some (.int r), some (deedD e), a10, some l, k5', k6', dd', tk', st', rfl, y2⟩
        simp [g9, x1, y1]
end
theorem cup_eq (ns : List Int) (hl : ns.length ≤ 63) : ∃ a b, t__law_cup [.scr ns] [] = .ok (.obj 0) [.lst [.int a, .int b]] ∧ 0 ≤ a ∧ 0 ≤ b ∧ b < 2147483648 := by
  have z : ns.length + 1 ≤ sizeLine := Nat.le_trans (show _ ≤ 64 by omega) (by rw [sizeLine_eq]; decide)
  have hx : ∃ v : Int, L2.atI (ns.map D.int ++ [.int 0]) 0 = some (.int v) := by
    cases ns with
    | nil => exact ⟨0, rfl⟩
    | cons x r => exact ⟨x, by
        have : (x :: r).map D.int ++ [.int 0] = ((x :: r) ++ [0]).map D.int := by simp
        rw [this, atI_map]; simp [L2.atI, ixN]; rw [if_pos (by omega)]; rfl⟩
  obtain ⟨v, hv⟩ := hx
  obtain ⟨w, hw, hw0⟩ : ∃ w : Int, w = (if v < 0 then -v else v) ∧ 0 ≤ w := ⟨_, rfl, by split <;> omega⟩
  have m1 := Int.emod_nonneg (w * 1583 + 6053) (show (2099910517 : Int) ≠ 0 by decide)
  have m2 := Int.emod_lt_of_pos (w * 1583 + 6053) (show (0 : Int) < 2099910517 by decide)
  have mm : (-18446744073709551616 < w ∧ w < 18446744073709551616) ∨ (-18446744073709551616 < (1583 : Int) ∧ (1583 : Int) < 18446744073709551616) := .inr (by decide)
  by_cases hb : 1000000000000000000 ≤ w
  · refine ⟨w / 89, (w * 1583 + 6053) % 2099910517 + 1451, ?_, Int.ediv_nonneg hw0 (by decide), by omega, by omega⟩
    simp [t__law_cup, b__law_cup, z, hv, ← hw, hb, mm]
  · refine ⟨0, (w * 1583 + 6053) % 2099910517 + 1451, ?_, Int.le_refl _, by omega, by omega⟩
    simp [t__law_cup, b__law_cup, z, hv, ← hw, hb, mm]
end K63
set_option Elab.async false
set_option linter.all false
set_option maxRecDepth 100000
set_option maxHeartbeats 1000000
set_option autoImplicit false
namespace K63
open L3 PySem L2
def rowsS (m : MO) : Sto := match t__law_rows_right [] [m] with
  | .ok _ S => S
  | _ => []
theorem rows_eq (m : MO) : t__law_rows_right [] [m] = .ok (.bl true) (rowsS m) := by
  unfold rowsS
  kernel_rfl
theorem rows_keep (m : MO) : (rowsS m)[0]? = some m := by
  kernel_rfl
end K63
set_option Elab.async false
set_option linter.all false
set_option maxRecDepth 100000
set_option maxHeartbeats 1000000
set_option autoImplicit false
namespace K63
open L3 PySem L2
def Tn (s0 : D) (c : Nat) (δ : EnvD) (S : Sto) : Prop := ∃ b2 b3 b4 b5 b6 b7 b8 b9 b10 b11, δ = [some s0, some (.obj c), b2, b3, b4, b5, b6, b7, b8, b9, b10, b11] ∧ Cup S c
theorem turn_eq' {s0 : D} {c : Nat} {S : Sto} {b2 b3 b4 b5 b6 b7 b8 b9 b10 b11 : Option D} (hc : Cup S c) : ∃ δ' S', lwTurn [some s0, some (.obj c), b2, b3, b4, b5, b6, b7, b8, b9, b10, b11] S = .nx δ' S' ∧ Tn s0 c δ' S' := by
  obtain ⟨r, S1, r1, r2, r3, r4, r5⟩ := roll_eq (m := 5) hc (by decide) (by decide)
  obtain ⟨n, hn, hn1, hn5⟩ : ∃ n : Nat, (1 : Int) + r = (n : Nat) ∧ 1 ≤ n ∧ n ≤ 5 := ⟨(1 + r).toNat, by omega, by omega, by omega⟩
  obtain ⟨cw, S2, c1, c2, c3, c4⟩ := cube_eq r4 hn1 hn5
  have lc : c < S2.length := by obtain ⟨a, b, h1, _⟩ := c3.ex; exact (List.getElem?_eq_some_iff.mp h1).1
  obtain ⟨S3, t1, t2, t3⟩ := init_eq (S := S2 ++ [.ins (Str.ofString "Desk") []]) (d := S2.length) c2 (by simp)
  have c5 : Cup S3 c := (c3.app _).fr t3 (by simp; omega)
  have l3 := t3.len
  rw [List.length_append, List.length_singleton] at l3 t2
  obtain ⟨T, hT⟩ : ∃ T : Sto, T = S3 ++ [.lst [], .lst []] := ⟨_, rfl⟩
  have fT : Fr [] S3 T := by rw [hT]; exact Fr.app _ _ _
  have DT := t2.fr fT (by simp) (by simp) (by simp) (by simp) (by simp) (by simp)
  have lts := t2.ds.lt
  obtain ⟨T1, a1, f1⟩ := is_as_eq DT (by simp) (x := .lst []) (.inl rfl)
  have cT := (c5.fr fT (by simp)).fr f1 (by simp)
  obtain ⟨y, T2, s1, s2, s3, s4⟩ := some_lst (xs := [D.int 6, .int 15, .int 30]) cT (by simp) (by simp)
  obtain ⟨m, hm, hm2⟩ : ∃ m : Nat, y = .int (m : Nat) ∧ m ≤ 30 := by
    simp only [List.mem_cons, List.not_mem_nil, or_false] at s2
    rcases s2 with e | e | e
    · exact ⟨6, e, by omega⟩
    · exact ⟨15, e, by omega⟩
    · exact ⟨30, e, by omega⟩
  subst hm
  have I0 : In T c S2.length S3.length (S3.length + 1) n cw [] [] ([], cw) 0 := by
    refine ⟨c5.fr fT (by simp), ⟨_, _, _, _, _, DT, ?_, ?_, ?_⟩, by rw [hT]; simp, by rw [hT]; simp, by omega, by omega, by omega, ⟨_, rfl⟩, (fun _ h => nomatch h), by simp⟩
    · simp; omega
    · simp; omega
    · simp; omega
  have I1 := (I0.fr (f1.mono (by simp)) cT).fr s4.fr1 s3
  let P : Nat → EnvD → Sto → Prop := fun i δ T => At (some s0) b2 c S2.length n cw i δ T
  have P0 : P 0 [some s0, some (.obj c), b2, some (cubeD n cw), some (.obj S2.length), some (.obj S3.length), some (.obj (S3.length + 1)), b7, b8, b9, b10, b11] T2 := ⟨b7, b8, b9, b10, b11, _, _, _, _, _, rfl, I1⟩
  have lp := forL_ind (β := bName 7) (f := lwBody) P (rngD 0 m) 0 _ _ P0 (fun j x δ T hj hp => by
    rw [Nat.zero_add] at hp ⊢
    have hj2 : j < m := by
      have := (List.getElem?_eq_some_iff.mp hj).1
      simpa [rngD] using this
    obtain ⟨a7, a8, a9, a10, a11, k5, k6, dd, tk, st, rfl, I⟩ := hp
    obtain ⟨δ', S', e1, e2⟩ := body_eq (s0 := some s0) (a2 := b2) (a7 := some x) (a8 := a8) (a9 := a9) (a10 := a10) (a11 := a11) I (by omega)
    exact ⟨_, δ', S', rfl, .inl e1, e2⟩)
  obtain ⟨δ', S', l1, a7, a8, a9, a10, a11, k5, k6, dd, tk, st, rfl, I⟩ := lp
  refine ⟨lwEnv (some s0) b2 a7 a8 a9 a10 a11 c S2.length k5 k6 n cw, S', ?_, b2, some (cubeD n cw), some (.obj S2.length), some (.obj k5), some (.obj k6), a7, a8, a9, a10, a11, rfl, I.cup⟩
  have it : itR1 (consA (callD t__law_some 2 (consA (varE 1) (consA (frzE (lstE (consA (conE (.int 6)) (consA (conE (.int 15)) (consA (conE (.int 30)) nilA))))) nilA))) nilA) [some s0, some (.obj c), b2, some (cubeD n cw), some (.obj S2.length), some (.obj S3.length), some (.obj (S3.length + 1)), b7, b8, b9, b10, b11] T1 = .ok (.stat (rngD 0 m)) T2 := by
    rw [e_itR1 (j := (m : Nat)) (S1 := T2) (h := by simp [s1]) (hj := by omega)]
    rfl
  have lp2 := forS_stat (β := bName 7) (f := lwBody) it
  rw [l1] at lp2
  have hT' : S3 ++ [.lst [], .lst []] = T := hT.symm
  unfold lwTurn
  simp [r1, hn, c1, t1, hT', a1, lp2]
theorem law_true : ∀ ns : List Int, ns.length ≤ 63 → ∃ S, t_law [.scr ns] [] = .ok (.bl true) S := by
  intro ns hl
  obtain ⟨a, b, c1, ha, hb, hb2⟩ := cup_eq ns hl
  have re := rows_eq (.lst [.int a, .int b])
  have rk := rows_keep (.lst [.int a, .int b])
  have c0 : Cup (rowsS (.lst [.int a, .int b])) 0 := ⟨a, b, rk, ha, hb, hb2⟩
  have lp := forL_ind (β := bName 2) (f := lwTurn) (fun _ δ S => Tn (.scr ns) 0 δ S) (rngD 0 2) 0 [some (.scr ns), some (.obj 0), none, none, none, none, none, none, none, none, none, none] _ ⟨_, _, _, _, _, _, _, _, _, _, rfl, c0⟩ (fun j x δ T hj hp => by
    obtain ⟨b2, b3, b4, b5, b6, b7, b8, b9, b10, b11, rfl, hc⟩ := hp
    obtain ⟨δ', S', e1, e2⟩ := turn_eq' (s0 := .scr ns) (b2 := some x) (b3 := b3) (b4 := b4) (b5 := b5) (b6 := b6) (b7 := b7) (b8 := b8) (b9 := b9) (b10 := b10) (b11 := b11) hc
    exact ⟨_, δ', S', rfl, .inl e1, e2⟩)
  obtain ⟨δ', S', l1, _⟩ := lp
  have it : itR1 (consA (conE (.int 2)) nilA) [some (.scr ns), some (.obj 0), none, none, none, none, none, none, none, none, none, none] (rowsS (.lst [.int a, .int b])) = .ok (.stat (rngD 0 2)) (rowsS (.lst [.int a, .int b])) := by
    rw [e_itR1 (j := 2) (S1 := rowsS (.lst [.int a, .int b])) (h := by simp) (hj := by decide)]
    rfl
  have lp2 := forS_stat (β := bName 2) (f := lwTurn) it
  rw [l1] at lp2
  refine ⟨S', ?_⟩
  rw [law_def]
  simp [c1, re, lp2]
end K63
set_option Elab.async false
set_option linter.all false
set_option maxRecDepth 100000
set_option maxHeartbeats 2000000
set_option autoImplicit false
namespace K63
open PySem PySem.Spec PyProof.Rows L2 L3
def txOf {K : PySem.W.Frag} {h : Heap} {mg : Str → Option Value} {fa C_Desk f0 f1 f2 f3 f4 f5 f6 f7 f8 f9 f10 f11 f12 f13 f14 f15 f16 f17 f18 f19 f20 f21 f22 f23 f24 f25 f26 f27 f28 f29 f30 f31 f32 f33 f34 f35 f36 f37 f38 f39 f40 f41 f42 : Addr} (X : K.In h) (G : h.Ns mainGlobals mg)
    {od0 an0 : Option Addr}
    {sl0 : Array (Option Value)}
    {oc0 kV0 dc0 pm0 cd0 ct0 : Value}
    {od1 an1 : Option Addr}
    {sl1 : Array (Option Value)}
    {oc1 kV1 dc1 pm1 cd1 ct1 : Value}
    {od2 an2 : Option Addr}
    {sl2 : Array (Option Value)}
    {oc2 kV2 dc2 pm2 cd2 ct2 : Value}
    {od3 an3 : Option Addr}
    {sl3 : Array (Option Value)}
    {oc3 kV3 dc3 pm3 cd3 ct3 : Value}
    {od4 an4 : Option Addr}
    {sl4 : Array (Option Value)}
    {oc4 kV4 dc4 pm4 cd4 ct4 : Value}
    {od5 an5 : Option Addr}
    {sl5 : Array (Option Value)}
    {oc5 kV5 dc5 pm5 cd5 ct5 : Value}
    {od6 an6 : Option Addr}
    {sl6 : Array (Option Value)}
    {oc6 kV6 dc6 pm6 cd6 ct6 : Value}
    {od7 an7 : Option Addr}
    {sl7 : Array (Option Value)}
    {oc7 kV7 dc7 pm7 cd7 ct7 : Value}
    {od8 an8 : Option Addr}
    {sl8 : Array (Option Value)}
    {oc8 kV8 dc8 pm8 cd8 ct8 : Value}
    {od9 an9 : Option Addr}
    {sl9 : Array (Option Value)}
    {oc9 kV9 dc9 pm9 cd9 ct9 : Value}
    {od10 an10 : Option Addr}
    {sl10 : Array (Option Value)}
    {oc10 kV10 dc10 pm10 cd10 ct10 : Value}
    {od11 an11 : Option Addr}
    {sl11 : Array (Option Value)}
    {oc11 kV11 dc11 pm11 cd11 ct11 : Value}
    {od12 an12 : Option Addr}
    {sl12 : Array (Option Value)}
    {oc12 kV12 dc12 pm12 cd12 ct12 : Value}
    {od13 an13 : Option Addr}
    {sl13 : Array (Option Value)}
    {oc13 kV13 dc13 pm13 cd13 ct13 : Value}
    {od14 an14 : Option Addr}
    {sl14 : Array (Option Value)}
    {oc14 kV14 dc14 pm14 cd14 ct14 : Value}
    {od15 an15 : Option Addr}
    {sl15 : Array (Option Value)}
    {oc15 kV15 dc15 pm15 cd15 ct15 : Value}
    {od16 an16 : Option Addr}
    {sl16 : Array (Option Value)}
    {oc16 kV16 dc16 pm16 cd16 ct16 : Value}
    {od17 an17 : Option Addr}
    {sl17 : Array (Option Value)}
    {oc17 kV17 dc17 pm17 cd17 ct17 : Value}
    {od18 an18 : Option Addr}
    {sl18 : Array (Option Value)}
    {oc18 kV18 dc18 pm18 cd18 ct18 : Value}
    {od19 an19 : Option Addr}
    {sl19 : Array (Option Value)}
    {oc19 kV19 dc19 pm19 cd19 ct19 : Value}
    {od20 an20 : Option Addr}
    {sl20 : Array (Option Value)}
    {oc20 kV20 dc20 pm20 cd20 ct20 : Value}
    {od21 an21 : Option Addr}
    {sl21 : Array (Option Value)}
    {oc21 kV21 dc21 pm21 cd21 ct21 : Value}
    {od22 an22 : Option Addr}
    {sl22 : Array (Option Value)}
    {oc22 kV22 dc22 pm22 cd22 ct22 : Value}
    {od23 an23 : Option Addr}
    {sl23 : Array (Option Value)}
    {oc23 kV23 dc23 pm23 cd23 ct23 : Value}
    {od24 an24 : Option Addr}
    {sl24 : Array (Option Value)}
    {oc24 kV24 dc24 pm24 cd24 ct24 : Value}
    {od25 an25 : Option Addr}
    {sl25 : Array (Option Value)}
    {oc25 kV25 dc25 pm25 cd25 ct25 : Value}
    {od26 an26 : Option Addr}
    {sl26 : Array (Option Value)}
    {oc26 kV26 dc26 pm26 cd26 ct26 : Value}
    {od27 an27 : Option Addr}
    {sl27 : Array (Option Value)}
    {oc27 kV27 dc27 pm27 cd27 ct27 : Value}
    {od28 an28 : Option Addr}
    {sl28 : Array (Option Value)}
    {oc28 kV28 dc28 pm28 cd28 ct28 : Value}
    {od29 an29 : Option Addr}
    {sl29 : Array (Option Value)}
    {oc29 kV29 dc29 pm29 cd29 ct29 : Value}
    {od30 an30 : Option Addr}
    {sl30 : Array (Option Value)}
    {oc30 kV30 dc30 pm30 cd30 ct30 : Value}
    {od31 an31 : Option Addr}
    {sl31 : Array (Option Value)}
    {oc31 kV31 dc31 pm31 cd31 ct31 : Value}
    {od32 an32 : Option Addr}
    {sl32 : Array (Option Value)}
    {oc32 kV32 dc32 pm32 cd32 ct32 : Value}
    {od33 an33 : Option Addr}
    {sl33 : Array (Option Value)}
    {oc33 kV33 dc33 pm33 cd33 ct33 : Value}
    {od34 an34 : Option Addr}
    {sl34 : Array (Option Value)}
    {oc34 kV34 dc34 pm34 cd34 ct34 : Value}
    {od35 an35 : Option Addr}
    {sl35 : Array (Option Value)}
    {oc35 kV35 dc35 pm35 cd35 ct35 : Value}
    {od36 an36 : Option Addr}
    {sl36 : Array (Option Value)}
    {oc36 kV36 dc36 pm36 cd36 ct36 : Value}
    {od37 an37 : Option Addr}
    {sl37 : Array (Option Value)}
    {oc37 kV37 dc37 pm37 cd37 ct37 : Value}
    {od38 an38 : Option Addr}
    {sl38 : Array (Option Value)}
    {oc38 kV38 dc38 pm38 cd38 ct38 : Value}
    {od39 an39 : Option Addr}
    {sl39 : Array (Option Value)}
    {oc39 kV39 dc39 pm39 cd39 ct39 : Value}
    {od40 an40 : Option Addr}
    {sl40 : Array (Option Value)}
    {oc40 kV40 dc40 pm40 cd40 ct40 : Value}
    {od41 an41 : Option Addr}
    {sl41 : Array (Option Value)}
    {oc41 kV41 dc41 pm41 cd41 ct41 : Value}
    {od42 an42 : Option Addr}
    {sl42 : Array (Option Value)}
    {oc42 kV42 dc42 pm42 cd42 ct42 : Value}
    {tk_DEEDS : Tok}
    {tk_SIGNS_cubes : Tok}
    {tk_SIGNS_signs : Tok}
    (aC_Desk : PySem.W.nsIn K mainGlobals "Desk" = some (some (.ref C_Desk)))
    (pg_Desk : PySem.W.plainGet K C_Desk Str.empty = true)
    (hd_Desk : PySem.W.hasDictIn K C_Desk = true)
    (po_Desk : PySem.W.plainOver K C_Desk = true)
    (sa_Desk : PySem.W.findIn K (.ref C_Desk) "__setattr__" = some (some (.builtin "object.__setattr__")))
    (n_Desk_bars : PySem.W.findIn K (.ref C_Desk) "bars" = some none)
    (n_Desk_cube : PySem.W.findIn K (.ref C_Desk) "cube" = some none)
    (n_Desk_deeds : PySem.W.findIn K (.ref C_Desk) "deeds" = some none)
    (n_Desk_laid : PySem.W.findIn K (.ref C_Desk) "laid" = some none)
    (n_Desk_line : PySem.W.findIn K (.ref C_Desk) "line" = some none)
    (n_Desk_taken : PySem.W.findIn K (.ref C_Desk) "taken" = some none)
    (a0 : PySem.W.nsIn K mainGlobals "_law_cup" = some (some (.ref f0)))
    (l0 : K.lookup f0 = some ⟨oc0, od0, .func (PySem.W.fnOf "_law_cup" "_law_cup" (defArgs s__law_cup) (defBody s__law_cup) (defScope s__law_cup) .none kV0 dc0 pm0 an0 cd0 ct0), sl0⟩)
    (c0 : PySem.W.codeIn K cd0 "_law_cup" = true)
    (k0 : PySem.W.keepIn K (.ref f0) = true)
    (a1 : PySem.W.nsIn K mainGlobals "is_tuple_of" = some (some (.ref f1)))
    (l1 : K.lookup f1 = some ⟨oc1, od1, .func (PySem.W.fnOf "is_tuple_of" "is_tuple_of" (defArgs s_is_tuple_of) (defBody s_is_tuple_of) (defScope s_is_tuple_of) .none kV1 dc1 pm1 an1 cd1 ct1), sl1⟩)
    (c1 : PySem.W.codeIn K cd1 "is_tuple_of" = true)
    (k1 : PySem.W.keepIn K (.ref f1) = true)
    (a2 : PySem.W.nsIn K mainGlobals "fits_whole" = some (some (.ref f2)))
    (l2 : K.lookup f2 = some ⟨oc2, od2, .func (PySem.W.fnOf "fits_whole" "fits_whole" (defArgs s_fits_whole) (defBody s_fits_whole) (defScope s_fits_whole) .none kV2 dc2 pm2 an2 cd2 ct2), sl2⟩)
    (c2 : PySem.W.codeIn K cd2 "fits_whole" = true)
    (k2 : PySem.W.keepIn K (.ref f2) = true)
    (a3 : PySem.W.nsIn K mainGlobals "fits_word" = some (some (.ref f3)))
    (l3 : K.lookup f3 = some ⟨oc3, od3, .func (PySem.W.fnOf "fits_word" "fits_word" (defArgs s_fits_word) (defBody s_fits_word) (defScope s_fits_word) .none kV3 dc3 pm3 an3 cd3 ct3), sl3⟩)
    (c3 : PySem.W.codeIn K cd3 "fits_word" = true)
    (k3 : PySem.W.keepIn K (.ref f3) = true)
    (a4 : PySem.W.findIn K (.ref C_Desk) "need_word" = some (some (.ref f4)))
    (i4 : PySem.W.isFn K (.ref f4) = true)
    (l4 : K.lookup f4 = some ⟨oc4, od4, .func (PySem.W.fnOf "need_word" "Desk.need_word" (defArgs s_Desk_need_word) (defBody s_Desk_need_word) (defScope s_Desk_need_word) .none kV4 dc4 pm4 an4 cd4 ct4), sl4⟩)
    (c4 : PySem.W.codeIn K cd4 "Desk.need_word" = true)
    (k4 : PySem.W.keepIn K (.ref f4) = true)
    (a5 : PySem.W.nsIn K mainGlobals "turned_at" = some (some (.ref f5)))
    (l5 : K.lookup f5 = some ⟨oc5, od5, .func (PySem.W.fnOf "turned_at" "turned_at" (defArgs s_turned_at) (defBody s_turned_at) (defScope s_turned_at) .none kV5 dc5 pm5 an5 cd5 ct5), sl5⟩)
    (c5 : PySem.W.codeIn K cd5 "turned_at" = true)
    (k5 : PySem.W.keepIn K (.ref f5) = true)
    (a6 : PySem.W.findIn K (.ref C_Desk) "do" = some (some (.ref f6)))
    (i6 : PySem.W.isFn K (.ref f6) = true)
    (l6 : K.lookup f6 = some ⟨oc6, od6, .func (PySem.W.fnOf "do" "Desk.do" (defArgs s_Desk_do) (defBody s_Desk_do) (defScope s_Desk_do) .none kV6 dc6 pm6 an6 cd6 ct6), sl6⟩)
    (c6 : PySem.W.codeIn K cd6 "Desk.do" = true)
    (k6 : PySem.W.keepIn K (.ref f6) = true)
    (a7 : PySem.W.findIn K (.ref C_Desk) "can" = some (some (.ref f7)))
    (i7 : PySem.W.isFn K (.ref f7) = true)
    (l7 : K.lookup f7 = some ⟨oc7, od7, .func (PySem.W.fnOf "can" "Desk.can" (defArgs s_Desk_can) (defBody s_Desk_can) (defScope s_Desk_can) .none kV7 dc7 pm7 an7 cd7 ct7), sl7⟩)
    (c7 : PySem.W.codeIn K cd7 "Desk.can" = true)
    (k7 : PySem.W.keepIn K (.ref f7) = true)
    (a8 : PySem.W.findIn K (.ref C_Desk) "done" = some (some (.ref f8)))
    (i8 : PySem.W.isFn K (.ref f8) = true)
    (l8 : K.lookup f8 = some ⟨oc8, od8, .func (PySem.W.fnOf "done" "Desk.done" (defArgs s_Desk_done) (defBody s_Desk_done) (defScope s_Desk_done) .none kV8 dc8 pm8 an8 cd8 ct8), sl8⟩)
    (c8 : PySem.W.codeIn K cd8 "Desk.done" = true)
    (k8 : PySem.W.keepIn K (.ref f8) = true)
    (a9 : PySem.W.findIn K (.ref C_Desk) "begin" = some (some (.ref f9)))
    (i9 : PySem.W.isFn K (.ref f9) = true)
    (l9 : K.lookup f9 = some ⟨oc9, od9, .func (PySem.W.fnOf "begin" "Desk.begin" (defArgs s_Desk_begin) (defBody s_Desk_begin) (defScope s_Desk_begin) .none kV9 dc9 pm9 an9 cd9 ct9), sl9⟩)
    (c9 : PySem.W.codeIn K cd9 "Desk.begin" = true)
    (k9 : PySem.W.keepIn K (.ref f9) = true)
    (a10 : PySem.W.findIn K (.ref C_Desk) "turn" = some (some (.ref f10)))
    (i10 : PySem.W.isFn K (.ref f10) = true)
    (l10 : K.lookup f10 = some ⟨oc10, od10, .func (PySem.W.fnOf "turn" "Desk.turn" (defArgs s_Desk_turn) (defBody s_Desk_turn) (defScope s_Desk_turn) .none kV10 dc10 pm10 an10 cd10 ct10), sl10⟩)
    (c10 : PySem.W.codeIn K cd10 "Desk.turn" = true)
    (k10 : PySem.W.keepIn K (.ref f10) = true)
    (a11 : PySem.W.findIn K (.ref C_Desk) "clear" = some (some (.ref f11)))
    (i11 : PySem.W.isFn K (.ref f11) = true)
    (l11 : K.lookup f11 = some ⟨oc11, od11, .func (PySem.W.fnOf "clear" "Desk.clear" (defArgs s_Desk_clear) (defBody s_Desk_clear) (defScope s_Desk_clear) .none kV11 dc11 pm11 an11 cd11 ct11), sl11⟩)
    (c11 : PySem.W.codeIn K cd11 "Desk.clear" = true)
    (k11 : PySem.W.keepIn K (.ref f11) = true)
    (a12 : PySem.W.findIn K (.ref C_Desk) "again" = some (some (.ref f12)))
    (i12 : PySem.W.isFn K (.ref f12) = true)
    (l12 : K.lookup f12 = some ⟨oc12, od12, .func (PySem.W.fnOf "again" "Desk.again" (defArgs s_Desk_again) (defBody s_Desk_again) (defScope s_Desk_again) .none kV12 dc12 pm12 an12 cd12 ct12), sl12⟩)
    (c12 : PySem.W.codeIn K cd12 "Desk.again" = true)
    (k12 : PySem.W.keepIn K (.ref f12) = true)
    (a13 : PySem.W.findIn K (.ref C_Desk) "undo" = some (some (.ref f13)))
    (i13 : PySem.W.isFn K (.ref f13) = true)
    (l13 : K.lookup f13 = some ⟨oc13, od13, .func (PySem.W.fnOf "undo" "Desk.undo" (defArgs s_Desk_undo) (defBody s_Desk_undo) (defScope s_Desk_undo) .none kV13 dc13 pm13 an13 cd13 ct13), sl13⟩)
    (c13 : PySem.W.codeIn K cd13 "Desk.undo" = true)
    (k13 : PySem.W.keepIn K (.ref f13) = true)
    (a14 : PySem.W.findIn K (.ref C_Desk) "bar" = some (some (.ref f14)))
    (i14 : PySem.W.isFn K (.ref f14) = true)
    (l14 : K.lookup f14 = some ⟨oc14, od14, .func (PySem.W.fnOf "bar" "Desk.bar" (defArgs s_Desk_bar) (defBody s_Desk_bar) (defScope s_Desk_bar) .none kV14 dc14 pm14 an14 cd14 ct14), sl14⟩)
    (c14 : PySem.W.codeIn K cd14 "Desk.bar" = true)
    (k14 : PySem.W.keepIn K (.ref f14) = true)
    (a15 : PySem.W.nsIn K mainGlobals "fits_cube" = some (some (.ref f15)))
    (l15 : K.lookup f15 = some ⟨oc15, od15, .func (PySem.W.fnOf "fits_cube" "fits_cube" (defArgs s_fits_cube) (defBody s_fits_cube) (defScope s_fits_cube) .none kV15 dc15 pm15 an15 cd15 ct15), sl15⟩)
    (c15 : PySem.W.codeIn K cd15 "fits_cube" = true)
    (k15 : PySem.W.keepIn K (.ref f15) = true)
    (a16 : PySem.W.nsIn K mainGlobals "need_cube" = some (some (.ref f16)))
    (l16 : K.lookup f16 = some ⟨oc16, od16, .func (PySem.W.fnOf "need_cube" "need_cube" (defArgs s_need_cube) (defBody s_need_cube) (defScope s_need_cube) .none kV16 dc16 pm16 an16 cd16 ct16), sl16⟩)
    (c16 : PySem.W.codeIn K cd16 "need_cube" = true)
    (k16 : PySem.W.keepIn K (.ref f16) = true)
    (a17 : PySem.W.findIn K (.ref C_Desk) "__init__" = some (some (.ref f17)))
    (i17 : PySem.W.isFn K (.ref f17) = true)
    (l17 : K.lookup f17 = some ⟨oc17, od17, .func (PySem.W.fnOf "__init__" "Desk.__init__" (defArgs s_Desk___init__) (defBody s_Desk___init__) (defScope s_Desk___init__) .none kV17 dc17 pm17 an17 cd17 ct17), sl17⟩)
    (c17 : PySem.W.codeIn K cd17 "Desk.__init__" = true)
    (k17 : PySem.W.keepIn K (.ref f17) = true)
    (a18 : PySem.W.findIn K (.ref C_Desk) "words" = some (some (.ref f18)))
    (i18 : PySem.W.isFn K (.ref f18) = true)
    (l18 : K.lookup f18 = some ⟨oc18, od18, .func (PySem.W.fnOf "words" "Desk.words" (defArgs s_Desk_words) (defBody s_Desk_words) (defScope s_Desk_words) .none kV18 dc18 pm18 an18 cd18 ct18), sl18⟩)
    (c18 : PySem.W.codeIn K cd18 "Desk.words" = true)
    (k18 : PySem.W.keepIn K (.ref f18) = true)
    (a19 : PySem.W.findIn K (.ref C_Desk) "able" = some (some (.ref f19)))
    (i19 : PySem.W.isFn K (.ref f19) = true)
    (l19 : K.lookup f19 = some ⟨oc19, od19, .func (PySem.W.fnOf "able" "Desk.able" (defArgs s_Desk_able) (defBody s_Desk_able) (defScope s_Desk_able) .none kV19 dc19 pm19 an19 cd19 ct19), sl19⟩)
    (c19 : PySem.W.codeIn K cd19 "Desk.able" = true)
    (k19 : PySem.W.keepIn K (.ref f19) = true)
    (a20 : PySem.W.nsIn K mainGlobals "all_words" = some (some (.ref f20)))
    (l20 : K.lookup f20 = some ⟨oc20, od20, .func (PySem.W.fnOf "all_words" "all_words" (defArgs s_all_words) (defBody s_all_words) (defScope s_all_words) .none kV20 dc20 pm20 an20 cd20 ct20), sl20⟩)
    (c20 : PySem.W.codeIn K cd20 "all_words" = true)
    (k20 : PySem.W.keepIn K (.ref f20) = true)
    (a21 : PySem.W.findIn K (.ref C_Desk) "left" = some (some (.ref f21)))
    (i21 : PySem.W.isFn K (.ref f21) = true)
    (l21 : K.lookup f21 = some ⟨oc21, od21, .func (PySem.W.fnOf "left" "Desk.left" (defArgs s_Desk_left) (defBody s_Desk_left) (defScope s_Desk_left) .none kV21 dc21 pm21 an21 cd21 ct21), sl21⟩)
    (c21 : PySem.W.codeIn K cd21 "Desk.left" = true)
    (k21 : PySem.W.keepIn K (.ref f21) = true)
    (a22 : PySem.W.findIn K (.ref C_Desk) "is_whole" = some (some (.ref f22)))
    (i22 : PySem.W.isFn K (.ref f22) = true)
    (l22 : K.lookup f22 = some ⟨oc22, od22, .func (PySem.W.fnOf "is_whole" "Desk.is_whole" (defArgs s_Desk_is_whole) (defBody s_Desk_is_whole) (defScope s_Desk_is_whole) .none kV22 dc22 pm22 an22 cd22 ct22), sl22⟩)
    (c22 : PySem.W.codeIn K cd22 "Desk.is_whole" = true)
    (k22 : PySem.W.keepIn K (.ref f22) = true)
    (a23 : PySem.W.nsIn K mainGlobals "_law_rows_right" = some (some (.ref f23)))
    (l23 : K.lookup f23 = some ⟨oc23, od23, .func (PySem.W.fnOf "_law_rows_right" "_law_rows_right" (defArgs s__law_rows_right) (defBody s__law_rows_right) (defScope s__law_rows_right) .none kV23 dc23 pm23 an23 cd23 ct23), sl23⟩)
    (c23 : PySem.W.codeIn K cd23 "_law_rows_right" = true)
    (k23 : PySem.W.keepIn K (.ref f23) = true)
    (a24 : PySem.W.nsIn K mainGlobals "_law_roll" = some (some (.ref f24)))
    (l24 : K.lookup f24 = some ⟨oc24, od24, .func (PySem.W.fnOf "_law_roll" "_law_roll" (defArgs s__law_roll) (defBody s__law_roll) (defScope s__law_roll) .none kV24 dc24 pm24 an24 cd24 ct24), sl24⟩)
    (c24 : PySem.W.codeIn K cd24 "_law_roll" = true)
    (k24 : PySem.W.keepIn K (.ref f24) = true)
    (a25 : PySem.W.nsIn K mainGlobals "_law_word" = some (some (.ref f25)))
    (l25 : K.lookup f25 = some ⟨oc25, od25, .func (PySem.W.fnOf "_law_word" "_law_word" (defArgs s__law_word) (defBody s__law_word) (defScope s__law_word) .none kV25 dc25 pm25 an25 cd25 ct25), sl25⟩)
    (c25 : PySem.W.codeIn K cd25 "_law_word" = true)
    (k25 : PySem.W.keepIn K (.ref f25) = true)
    (a26 : PySem.W.nsIn K mainGlobals "_law_cube" = some (some (.ref f26)))
    (l26 : K.lookup f26 = some ⟨oc26, od26, .func (PySem.W.fnOf "_law_cube" "_law_cube" (defArgs s__law_cube) (defBody s__law_cube) (defScope s__law_cube) .none kV26 dc26 pm26 an26 cd26 ct26), sl26⟩)
    (c26 : PySem.W.codeIn K cd26 "_law_cube" = true)
    (k26 : PySem.W.keepIn K (.ref f26) = true)
    (a27 : PySem.W.nsIn K mainGlobals "_law_turn" = some (some (.ref f27)))
    (l27 : K.lookup f27 = some ⟨oc27, od27, .func (PySem.W.fnOf "_law_turn" "_law_turn" (defArgs s__law_turn) (defBody s__law_turn) (defScope s__law_turn) .none kV27 dc27 pm27 an27 cd27 ct27), sl27⟩)
    (c27 : PySem.W.codeIn K cd27 "_law_turn" = true)
    (k27 : PySem.W.keepIn K (.ref f27) = true)
    (a28 : PySem.W.nsIn K mainGlobals "_law_at" = some (some (.ref f28)))
    (l28 : K.lookup f28 = some ⟨oc28, od28, .func (PySem.W.fnOf "_law_at" "_law_at" (defArgs s__law_at) (defBody s__law_at) (defScope s__law_at) .none kV28 dc28 pm28 an28 cd28 ct28), sl28⟩)
    (c28 : PySem.W.codeIn K cd28 "_law_at" = true)
    (k28 : PySem.W.keepIn K (.ref f28) = true)
    (a29 : PySem.W.nsIn K mainGlobals "_law_same" = some (some (.ref f29)))
    (l29 : K.lookup f29 = some ⟨oc29, od29, .func (PySem.W.fnOf "_law_same" "_law_same" (defArgs s__law_same) (defBody s__law_same) (defScope s__law_same) .none kV29 dc29 pm29 an29 cd29 ct29), sl29⟩)
    (c29 : PySem.W.codeIn K cd29 "_law_same" = true)
    (k29 : PySem.W.keepIn K (.ref f29) = true)
    (a30 : PySem.W.findIn K (.ref C_Desk) "barred" = some (some (.ref f30)))
    (i30 : PySem.W.isFn K (.ref f30) = true)
    (l30 : K.lookup f30 = some ⟨oc30, od30, .func (PySem.W.fnOf "barred" "Desk.barred" (defArgs s_Desk_barred) (defBody s_Desk_barred) (defScope s_Desk_barred) .none kV30 dc30 pm30 an30 cd30 ct30), sl30⟩)
    (c30 : PySem.W.codeIn K cd30 "Desk.barred" = true)
    (k30 : PySem.W.keepIn K (.ref f30) = true)
    (a31 : PySem.W.findIn K (.ref C_Desk) "log" = some (some (.ref f31)))
    (i31 : PySem.W.isFn K (.ref f31) = true)
    (l31 : K.lookup f31 = some ⟨oc31, od31, .func (PySem.W.fnOf "log" "Desk.log" (defArgs s_Desk_log) (defBody s_Desk_log) (defScope s_Desk_log) .none kV31 dc31 pm31 an31 cd31 ct31), sl31⟩)
    (c31 : PySem.W.codeIn K cd31 "Desk.log" = true)
    (k31 : PySem.W.keepIn K (.ref f31) = true)
    (a32 : PySem.W.nsIn K mainGlobals "_law_all" = some (some (.ref f32)))
    (l32 : K.lookup f32 = some ⟨oc32, od32, .func (PySem.W.fnOf "_law_all" "_law_all" (defArgs s__law_all) (defBody s__law_all) (defScope s__law_all) .none kV32 dc32 pm32 an32 cd32 ct32), sl32⟩)
    (c32 : PySem.W.codeIn K cd32 "_law_all" = true)
    (k32 : PySem.W.keepIn K (.ref f32) = true)
    (a33 : PySem.W.nsIn K mainGlobals "unlike_in" = some (some (.ref f33)))
    (l33 : K.lookup f33 = some ⟨oc33, od33, .func (PySem.W.fnOf "unlike_in" "unlike_in" (defArgs s_unlike_in) (defBody s_unlike_in) (defScope s_unlike_in) .none kV33 dc33 pm33 an33 cd33 ct33), sl33⟩)
    (c33 : PySem.W.codeIn K cd33 "unlike_in" = true)
    (k33 : PySem.W.keepIn K (.ref f33) = true)
    (a34 : PySem.W.findIn K (.ref C_Desk) "is_round" = some (some (.ref f34)))
    (i34 : PySem.W.isFn K (.ref f34) = true)
    (l34 : K.lookup f34 = some ⟨oc34, od34, .func (PySem.W.fnOf "is_round" "Desk.is_round" (defArgs s_Desk_is_round) (defBody s_Desk_is_round) (defScope s_Desk_is_round) .none kV34 dc34 pm34 an34 cd34 ct34), sl34⟩)
    (c34 : PySem.W.codeIn K cd34 "Desk.is_round" = true)
    (k34 : PySem.W.keepIn K (.ref f34) = true)
    (a35 : PySem.W.nsIn K mainGlobals "_law_unlike" = some (some (.ref f35)))
    (l35 : K.lookup f35 = some ⟨oc35, od35, .func (PySem.W.fnOf "_law_unlike" "_law_unlike" (defArgs s__law_unlike) (defBody s__law_unlike) (defScope s__law_unlike) .none kV35 dc35 pm35 an35 cd35 ct35), sl35⟩)
    (c35 : PySem.W.codeIn K cd35 "_law_unlike" = true)
    (k35 : PySem.W.keepIn K (.ref f35) = true)
    (a36 : PySem.W.nsIn K mainGlobals "_law_is_as" = some (some (.ref f36)))
    (l36 : K.lookup f36 = some ⟨oc36, od36, .func (PySem.W.fnOf "_law_is_as" "_law_is_as" (defArgs s__law_is_as) (defBody s__law_is_as) (defScope s__law_is_as) .none kV36 dc36 pm36 an36 cd36 ct36), sl36⟩)
    (c36 : PySem.W.codeIn K cd36 "_law_is_as" = true)
    (k36 : PySem.W.keepIn K (.ref f36) = true)
    (a37 : PySem.W.nsIn K mainGlobals "_law_some" = some (some (.ref f37)))
    (l37 : K.lookup f37 = some ⟨oc37, od37, .func (PySem.W.fnOf "_law_some" "_law_some" (defArgs s__law_some) (defBody s__law_some) (defScope s__law_some) .none kV37 dc37 pm37 an37 cd37 ct37), sl37⟩)
    (c37 : PySem.W.codeIn K cd37 "_law_some" = true)
    (k37 : PySem.W.keepIn K (.ref f37) = true)
    (a38 : PySem.W.nsIn K mainGlobals "_law_drawn" = some (some (.ref f38)))
    (l38 : K.lookup f38 = some ⟨oc38, od38, .func (PySem.W.fnOf "_law_drawn" "_law_drawn" (defArgs s__law_drawn) (defBody s__law_drawn) (defScope s__law_drawn) .none kV38 dc38 pm38 an38 cd38 ct38), sl38⟩)
    (c38 : PySem.W.codeIn K cd38 "_law_drawn" = true)
    (k38 : PySem.W.keepIn K (.ref f38) = true)
    (a39 : PySem.W.findIn K (.ref C_Desk) "redo" = some (some (.ref f39)))
    (i39 : PySem.W.isFn K (.ref f39) = true)
    (l39 : K.lookup f39 = some ⟨oc39, od39, .func (PySem.W.fnOf "redo" "Desk.redo" (defArgs s_Desk_redo) (defBody s_Desk_redo) (defScope s_Desk_redo) .none kV39 dc39 pm39 an39 cd39 ct39), sl39⟩)
    (c39 : PySem.W.codeIn K cd39 "Desk.redo" = true)
    (k39 : PySem.W.keepIn K (.ref f39) = true)
    (a40 : PySem.W.findIn K (.ref C_Desk) "free" = some (some (.ref f40)))
    (i40 : PySem.W.isFn K (.ref f40) = true)
    (l40 : K.lookup f40 = some ⟨oc40, od40, .func (PySem.W.fnOf "free" "Desk.free" (defArgs s_Desk_free) (defBody s_Desk_free) (defScope s_Desk_free) .none kV40 dc40 pm40 an40 cd40 ct40), sl40⟩)
    (c40 : PySem.W.codeIn K cd40 "Desk.free" = true)
    (k40 : PySem.W.keepIn K (.ref f40) = true)
    (a41 : PySem.W.nsIn K mainGlobals "_law_do" = some (some (.ref f41)))
    (l41 : K.lookup f41 = some ⟨oc41, od41, .func (PySem.W.fnOf "_law_do" "_law_do" (defArgs s__law_do) (defBody s__law_do) (defScope s__law_do) .none kV41 dc41 pm41 an41 cd41 ct41), sl41⟩)
    (c41 : PySem.W.codeIn K cd41 "_law_do" = true)
    (k41 : PySem.W.keepIn K (.ref f41) = true)
    (a42 : PySem.W.nsIn K mainGlobals "law" = some (some (.ref f42)))
    (l42 : K.lookup f42 = some ⟨oc42, od42, .func (PySem.W.fnOf "law" "law" (defArgs s_law) (defBody s_law) (defScope s_law) .none kV42 dc42 pm42 an42 cd42 ct42), sl42⟩)
    (c42 : PySem.W.codeIn K cd42 "law" = true)
    (k42 : PySem.W.keepIn K (.ref f42) = true)
    (ms_Desk : PySem.W.makesIn K C_Desk = true)
    (kc_Desk : PySem.W.keepIn K (.ref C_Desk) = true)
    (z_abs : PySem.W.nsIn K mainGlobals "abs" = some none)
    (z_all : PySem.W.nsIn K mainGlobals "all" = some none)
    (z_bool : PySem.W.nsIn K mainGlobals "bool" = some none)
    (z_dict : PySem.W.nsIn K mainGlobals "dict" = some none)
    (z_enumerate : PySem.W.nsIn K mainGlobals "enumerate" = some none)
    (z_int : PySem.W.nsIn K mainGlobals "int" = some none)
    (z_isinstance : PySem.W.nsIn K mainGlobals "isinstance" = some none)
    (z_len : PySem.W.nsIn K mainGlobals "len" = some none)
    (z_list : PySem.W.nsIn K mainGlobals "list" = some none)
    (z_range : PySem.W.nsIn K mainGlobals "range" = some none)
    (z_set : PySem.W.nsIn K mainGlobals "set" = some none)
    (z_sorted : PySem.W.nsIn K mainGlobals "sorted" = some none)
    (z_str : PySem.W.nsIn K mainGlobals "str" = some none)
    (z_tuple : PySem.W.nsIn K mainGlobals "tuple" = some none)
    (z_zip : PySem.W.nsIn K mainGlobals "zip" = some none)
    (k_DEEDS : PySem.W.nsIn K mainGlobals "DEEDS" = some (some (.int 2000 tk_DEEDS)))
    (k_SIGNS_cubes : PySem.W.nsIn K mainGlobals "SIGNS_cubes" = some (some (.int 6 tk_SIGNS_cubes)))
    (k_SIGNS_signs : PySem.W.nsIn K mainGlobals "SIGNS_signs" = some (some (.int 16 tk_SIGNS_signs)))
    : TX K mg where
  c_Desk := ⟨C_Desk, PySem.W.mg_of X G aC_Desk, ⟨pg_Desk, hd_Desk, po_Desk, sa_Desk⟩⟩
  n_Desk_bars := n_Desk_bars
  n_Desk_cube := n_Desk_cube
  n_Desk_deeds := n_Desk_deeds
  n_Desk_laid := n_Desk_laid
  n_Desk_line := n_Desk_line
  n_Desk_taken := n_Desk_taken
  d__law_cup := ⟨⟨f0, _, (fun_mk (st := s__law_cup) l0 c0 k0), ((fun_mk (st := s__law_cup) l0 c0 k0).binds (ps := ["script"]) fun _ _ _ _ _ _ us hl => match us, hl with | [_], _ => rfl)⟩, PySem.W.mg_of X G a0⟩
  d_is_tuple_of := ⟨⟨f1, _, (fun_mk (st := s_is_tuple_of) l1 c1 k1), ((fun_mk (st := s_is_tuple_of) l1 c1 k1).binds (ps := ["value", "least", "most"]) fun _ _ _ _ _ _ us hl => match us, hl with | [_, _, _], _ => rfl)⟩, PySem.W.mg_of X G a1⟩
  d_fits_whole := ⟨⟨f2, _, (fun_mk (st := s_fits_whole) l2 c2 k2), ((fun_mk (st := s_fits_whole) l2 c2 k2).binds (ps := ["value", "low", "high"]) fun _ _ _ _ _ _ us hl => match us, hl with | [_, _, _], _ => rfl)⟩, PySem.W.mg_of X G a2⟩
  d_fits_word := ⟨⟨f3, _, (fun_mk (st := s_fits_word) l3 c3 k3), ((fun_mk (st := s_fits_word) l3 c3 k3).binds (ps := ["value"]) fun _ _ _ _ _ _ us hl => match us, hl with | [_], _ => rfl)⟩, PySem.W.mg_of X G a3⟩
  m_Desk_need_word := ⟨⟨f4, _, (fun_mk (st := s_Desk_need_word) l4 c4 k4), ((fun_mk (st := s_Desk_need_word) l4 c4 k4).binds (ps := ["self", "word"]) fun _ _ _ _ _ _ us hl => match us, hl with | [_, _], _ => rfl)⟩, ⟨a4, i4, k4⟩⟩
  d_turned_at := ⟨⟨f5, _, (fun_mk (st := s_turned_at) l5 c5 k5), ((fun_mk (st := s_turned_at) l5 c5 k5).binds (ps := ["word", "place"]) fun _ _ _ _ _ _ us hl => match us, hl with | [_, _], _ => rfl)⟩, PySem.W.mg_of X G a5⟩
  m_Desk_do := ⟨⟨f6, _, (fun_mk (st := s_Desk_do) l6 c6 k6), ((fun_mk (st := s_Desk_do) l6 c6 k6).binds (ps := ["self", "deed"]) fun _ _ _ _ _ _ us hl => match us, hl with | [_, _], _ => rfl)⟩, ⟨a6, i6, k6⟩⟩
  m_Desk_can := ⟨⟨f7, _, (fun_mk (st := s_Desk_can) l7 c7 k7), ((fun_mk (st := s_Desk_can) l7 c7 k7).binds (ps := ["self", "deed"]) fun _ _ _ _ _ _ us hl => match us, hl with | [_, _], _ => rfl)⟩, ⟨a7, i7, k7⟩⟩
  m_Desk_done := ⟨⟨f8, _, (fun_mk (st := s_Desk_done) l8 c8 k8), ((fun_mk (st := s_Desk_done) l8 c8 k8).binds (ps := ["self", "deed"]) fun _ _ _ _ _ _ us hl => match us, hl with | [_, _], _ => rfl)⟩, ⟨a8, i8, k8⟩⟩
  m_Desk_begin := ⟨⟨f9, _, (fun_mk (st := s_Desk_begin) l9 c9 k9), ((fun_mk (st := s_Desk_begin) l9 c9 k9).binds (ps := ["self", "word"]) fun _ _ _ _ _ _ us hl => match us, hl with | [_, _], _ => rfl)⟩, ⟨a9, i9, k9⟩⟩
  m_Desk_turn := ⟨⟨f10, _, (fun_mk (st := s_Desk_turn) l10 c10 k10), ((fun_mk (st := s_Desk_turn) l10 c10 k10).binds (ps := ["self", "place"]) fun _ _ _ _ _ _ us hl => match us, hl with | [_, _], _ => rfl)⟩, ⟨a10, i10, k10⟩⟩
  m_Desk_clear := ⟨⟨f11, _, (fun_mk (st := s_Desk_clear) l11 c11 k11), ((fun_mk (st := s_Desk_clear) l11 c11 k11).binds (ps := ["self"]) fun _ _ _ _ _ _ us hl => match us, hl with | [_], _ => rfl)⟩, ⟨a11, i11, k11⟩⟩
  m_Desk_again := ⟨⟨f12, _, (fun_mk (st := s_Desk_again) l12 c12 k12), ((fun_mk (st := s_Desk_again) l12 c12 k12).binds (ps := ["self"]) fun _ _ _ _ _ _ us hl => match us, hl with | [_], _ => rfl)⟩, ⟨a12, i12, k12⟩⟩
  m_Desk_undo := ⟨⟨f13, _, (fun_mk (st := s_Desk_undo) l13 c13 k13), ((fun_mk (st := s_Desk_undo) l13 c13 k13).binds (ps := ["self"]) fun _ _ _ _ _ _ us hl => match us, hl with | [_], _ => rfl)⟩, ⟨a13, i13, k13⟩⟩
  m_Desk_bar := ⟨⟨f14, _, (fun_mk (st := s_Desk_bar) l14 c14 k14), ((fun_mk (st := s_Desk_bar) l14 c14 k14).binds (ps := ["self", "word"]) fun _ _ _ _ _ _ us hl => match us, hl with | [_, _], _ => rfl)⟩, ⟨a14, i14, k14⟩⟩
  d_fits_cube := ⟨⟨f15, _, (fun_mk (st := s_fits_cube) l15 c15 k15), ((fun_mk (st := s_fits_cube) l15 c15 k15).binds (ps := ["value"]) fun _ _ _ _ _ _ us hl => match us, hl with | [_], _ => rfl)⟩, PySem.W.mg_of X G a15⟩
  d_need_cube := ⟨⟨f16, _, (fun_mk (st := s_need_cube) l16 c16 k16), ((fun_mk (st := s_need_cube) l16 c16 k16).binds (ps := ["cube"]) fun _ _ _ _ _ _ us hl => match us, hl with | [_], _ => rfl)⟩, PySem.W.mg_of X G a16⟩
  m_Desk___init__ := ⟨⟨f17, _, (fun_mk (st := s_Desk___init__) l17 c17 k17), ((fun_mk (st := s_Desk___init__) l17 c17 k17).binds (ps := ["self", "cube"]) fun _ _ _ _ _ _ us hl => match us, hl with | [_, _], _ => rfl)⟩, ⟨a17, i17, k17⟩⟩
  m_Desk_words := ⟨⟨f18, _, (fun_mk (st := s_Desk_words) l18 c18 k18), ((fun_mk (st := s_Desk_words) l18 c18 k18).binds (ps := ["self"]) fun _ _ _ _ _ _ us hl => match us, hl with | [_], _ => rfl)⟩, ⟨a18, i18, k18⟩⟩
  m_Desk_able := ⟨⟨f19, _, (fun_mk (st := s_Desk_able) l19 c19 k19), ((fun_mk (st := s_Desk_able) l19 c19 k19).binds (ps := ["self"]) fun _ _ _ _ _ _ us hl => match us, hl with | [_], _ => rfl)⟩, ⟨a19, i19, k19⟩⟩
  d_all_words := ⟨⟨f20, _, (fun_mk (st := s_all_words) l20 c20 k20), ((fun_mk (st := s_all_words) l20 c20 k20).binds (ps := ["signs"]) fun _ _ _ _ _ _ us hl => match us, hl with | [_], _ => rfl)⟩, PySem.W.mg_of X G a20⟩
  m_Desk_left := ⟨⟨f21, _, (fun_mk (st := s_Desk_left) l21 c21 k21), ((fun_mk (st := s_Desk_left) l21 c21 k21).binds (ps := ["self"]) fun _ _ _ _ _ _ us hl => match us, hl with | [_], _ => rfl)⟩, ⟨a21, i21, k21⟩⟩
  m_Desk_is_whole := ⟨⟨f22, _, (fun_mk (st := s_Desk_is_whole) l22 c22 k22), ((fun_mk (st := s_Desk_is_whole) l22 c22 k22).binds (ps := ["self"]) fun _ _ _ _ _ _ us hl => match us, hl with | [_], _ => rfl)⟩, ⟨a22, i22, k22⟩⟩
  d__law_rows_right := ⟨⟨f23, _, (fun_mk (st := s__law_rows_right) l23 c23 k23), ((fun_mk (st := s__law_rows_right) l23 c23 k23).binds (ps := []) fun _ _ _ _ _ _ us hl => match us, hl with | [], _ => rfl)⟩, PySem.W.mg_of X G a23⟩
  d__law_roll := ⟨⟨f24, _, (fun_mk (st := s__law_roll) l24 c24 k24), ((fun_mk (st := s__law_roll) l24 c24 k24).binds (ps := ["cup", "many"]) fun _ _ _ _ _ _ us hl => match us, hl with | [_, _], _ => rfl)⟩, PySem.W.mg_of X G a24⟩
  d__law_word := ⟨⟨f25, _, (fun_mk (st := s__law_word) l25 c25 k25), ((fun_mk (st := s__law_word) l25 c25 k25).binds (ps := ["cup", "signs"]) fun _ _ _ _ _ _ us hl => match us, hl with | [_, _], _ => rfl)⟩, PySem.W.mg_of X G a25⟩
  d__law_cube := ⟨⟨f26, _, (fun_mk (st := s__law_cube) l26 c26 k26), ((fun_mk (st := s__law_cube) l26 c26 k26).binds (ps := ["cup", "signs"]) fun _ _ _ _ _ _ us hl => match us, hl with | [_, _], _ => rfl)⟩, PySem.W.mg_of X G a26⟩
  d__law_turn := ⟨⟨f27, _, (fun_mk (st := s__law_turn) l27 c27 k27), ((fun_mk (st := s__law_turn) l27 c27 k27).binds (ps := ["word", "place"]) fun _ _ _ _ _ _ us hl => match us, hl with | [_, _], _ => rfl)⟩, PySem.W.mg_of X G a27⟩
  d__law_at := ⟨⟨f28, _, (fun_mk (st := s__law_at) l28 c28 k28), ((fun_mk (st := s__law_at) l28 c28 k28).binds (ps := ["cube", "deeds"]) fun _ _ _ _ _ _ us hl => match us, hl with | [_, _], _ => rfl)⟩, PySem.W.mg_of X G a28⟩
  d__law_same := ⟨⟨f29, _, (fun_mk (st := s__law_same) l29 c29 k29), ((fun_mk (st := s__law_same) l29 c29 k29).binds (ps := ["told", "due"]) fun _ _ _ _ _ _ us hl => match us, hl with | [_, _], _ => rfl)⟩, PySem.W.mg_of X G a29⟩
  m_Desk_barred := ⟨⟨f30, _, (fun_mk (st := s_Desk_barred) l30 c30 k30), ((fun_mk (st := s_Desk_barred) l30 c30 k30).binds (ps := ["self"]) fun _ _ _ _ _ _ us hl => match us, hl with | [_], _ => rfl)⟩, ⟨a30, i30, k30⟩⟩
  m_Desk_log := ⟨⟨f31, _, (fun_mk (st := s_Desk_log) l31 c31 k31), ((fun_mk (st := s_Desk_log) l31 c31 k31).binds (ps := ["self"]) fun _ _ _ _ _ _ us hl => match us, hl with | [_], _ => rfl)⟩, ⟨a31, i31, k31⟩⟩
  d__law_all := ⟨⟨f32, _, (fun_mk (st := s__law_all) l32 c32 k32), ((fun_mk (st := s__law_all) l32 c32 k32).binds (ps := ["signs"]) fun _ _ _ _ _ _ us hl => match us, hl with | [_], _ => rfl)⟩, PySem.W.mg_of X G a32⟩
  d_unlike_in := ⟨⟨f33, _, (fun_mk (st := s_unlike_in) l33 c33 k33), ((fun_mk (st := s_unlike_in) l33 c33 k33).binds (ps := ["one", "other"]) fun _ _ _ _ _ _ us hl => match us, hl with | [_, _], _ => rfl)⟩, PySem.W.mg_of X G a33⟩
  m_Desk_is_round := ⟨⟨f34, _, (fun_mk (st := s_Desk_is_round) l34 c34 k34), ((fun_mk (st := s_Desk_is_round) l34 c34 k34).binds (ps := ["self"]) fun _ _ _ _ _ _ us hl => match us, hl with | [_], _ => rfl)⟩, ⟨a34, i34, k34⟩⟩
  d__law_unlike := ⟨⟨f35, _, (fun_mk (st := s__law_unlike) l35 c35 k35), ((fun_mk (st := s__law_unlike) l35 c35 k35).binds (ps := ["one", "other"]) fun _ _ _ _ _ _ us hl => match us, hl with | [_, _], _ => rfl)⟩, PySem.W.mg_of X G a35⟩
  d__law_is_as := ⟨⟨f36, _, (fun_mk (st := s__law_is_as) l36 c36 k36), ((fun_mk (st := s__law_is_as) l36 c36 k36).binds (ps := ["desk", "cube", "deeds"]) fun _ _ _ _ _ _ us hl => match us, hl with | [_, _, _], _ => rfl)⟩, PySem.W.mg_of X G a36⟩
  d__law_some := ⟨⟨f37, _, (fun_mk (st := s__law_some) l37 c37 k37), ((fun_mk (st := s__law_some) l37 c37 k37).binds (ps := ["cup", "things"]) fun _ _ _ _ _ _ us hl => match us, hl with | [_, _], _ => rfl)⟩, PySem.W.mg_of X G a37⟩
  d__law_drawn := ⟨⟨f38, _, (fun_mk (st := s__law_drawn) l38 c38 k38), ((fun_mk (st := s__law_drawn) l38 c38 k38).binds (ps := ["cup", "cube", "deeds"]) fun _ _ _ _ _ _ us hl => match us, hl with | [_, _, _], _ => rfl)⟩, PySem.W.mg_of X G a38⟩
  m_Desk_redo := ⟨⟨f39, _, (fun_mk (st := s_Desk_redo) l39 c39 k39), ((fun_mk (st := s_Desk_redo) l39 c39 k39).binds (ps := ["self"]) fun _ _ _ _ _ _ us hl => match us, hl with | [_], _ => rfl)⟩, ⟨a39, i39, k39⟩⟩
  m_Desk_free := ⟨⟨f40, _, (fun_mk (st := s_Desk_free) l40 c40 k40), ((fun_mk (st := s_Desk_free) l40 c40 k40).binds (ps := ["self", "word"]) fun _ _ _ _ _ _ us hl => match us, hl with | [_, _], _ => rfl)⟩, ⟨a40, i40, k40⟩⟩
  d__law_do := ⟨⟨f41, _, (fun_mk (st := s__law_do) l41 c41 k41), ((fun_mk (st := s__law_do) l41 c41 k41).binds (ps := ["desk", "deed"]) fun _ _ _ _ _ _ us hl => match us, hl with | [_, _], _ => rfl)⟩, PySem.W.mg_of X G a41⟩
  d_law := ⟨⟨f42, _, (fun_mk (st := s_law) l42 c42 k42), ((fun_mk (st := s_law) l42 c42 k42).binds (ps := ["script"]) fun _ _ _ _ _ _ us hl => match us, hl with | [_], _ => rfl)⟩, PySem.W.mg_of X G a42⟩
  mk_Desk := ⟨ms_Desk, a17, i17, kc_Desk⟩
  z_abs := PySem.W.mg_none_of X G z_abs
  z_all := PySem.W.mg_none_of X G z_all
  z_bool := PySem.W.mg_none_of X G z_bool
  z_dict := PySem.W.mg_none_of X G z_dict
  z_enumerate := PySem.W.mg_none_of X G z_enumerate
  z_int := PySem.W.mg_none_of X G z_int
  z_isinstance := PySem.W.mg_none_of X G z_isinstance
  z_len := PySem.W.mg_none_of X G z_len
  z_list := PySem.W.mg_none_of X G z_list
  z_range := PySem.W.mg_none_of X G z_range
  z_set := PySem.W.mg_none_of X G z_set
  z_sorted := PySem.W.mg_none_of X G z_sorted
  z_str := PySem.W.mg_none_of X G z_str
  z_tuple := PySem.W.mg_none_of X G z_tuple
  z_zip := PySem.W.mg_none_of X G z_zip
  k_DEEDS := ⟨tk_DEEDS, PySem.W.mg_of X G k_DEEDS⟩
  k_SIGNS_cubes := ⟨tk_SIGNS_cubes, PySem.W.mg_of X G k_SIGNS_cubes⟩
  k_SIGNS_signs := ⟨tk_SIGNS_signs, PySem.W.mg_of X G k_SIGNS_signs⟩
theorem all_mk {l : PySem.W.OpenLaw} {w : World} {K : PySem.W.Frag} {h : Heap} {mg : Str → Option Value} {fa C_Desk f0 f1 f2 f3 f4 f5 f6 f7 f8 f9 f10 f11 f12 f13 f14 f15 f16 f17 f18 f19 f20 f21 f22 f23 f24 f25 f26 f27 f28 f29 f30 f31 f32 f33 f34 f35 f36 f37 f38 f39 f40 f41 f42 : Addr} (X : K.In h) (G : h.Ns mainGlobals mg) (hfa : mg "law" = some (.ref fa))
    {od0 an0 : Option Addr}
    {sl0 : Array (Option Value)}
    {oc0 kV0 dc0 pm0 cd0 ct0 : Value}
    {od1 an1 : Option Addr}
    {sl1 : Array (Option Value)}
    {oc1 kV1 dc1 pm1 cd1 ct1 : Value}
    {od2 an2 : Option Addr}
    {sl2 : Array (Option Value)}
    {oc2 kV2 dc2 pm2 cd2 ct2 : Value}
    {od3 an3 : Option Addr}
    {sl3 : Array (Option Value)}
    {oc3 kV3 dc3 pm3 cd3 ct3 : Value}
    {od4 an4 : Option Addr}
    {sl4 : Array (Option Value)}
    {oc4 kV4 dc4 pm4 cd4 ct4 : Value}
    {od5 an5 : Option Addr}
    {sl5 : Array (Option Value)}
    {oc5 kV5 dc5 pm5 cd5 ct5 : Value}
    {od6 an6 : Option Addr}
    {sl6 : Array (Option Value)}
    {oc6 kV6 dc6 pm6 cd6 ct6 : Value}
    {od7 an7 : Option Addr}
    {sl7 : Array (Option Value)}
    {oc7 kV7 dc7 pm7 cd7 ct7 : Value}
    {od8 an8 : Option Addr}
    {sl8 : Array (Option Value)}
    {oc8 kV8 dc8 pm8 cd8 ct8 : Value}
    {od9 an9 : Option Addr}
    {sl9 : Array (Option Value)}
    {oc9 kV9 dc9 pm9 cd9 ct9 : Value}
    {od10 an10 : Option Addr}
    {sl10 : Array (Option Value)}
    {oc10 kV10 dc10 pm10 cd10 ct10 : Value}
    {od11 an11 : Option Addr}
    {sl11 : Array (Option Value)}
    {oc11 kV11 dc11 pm11 cd11 ct11 : Value}
    {od12 an12 : Option Addr}
    {sl12 : Array (Option Value)}
    {oc12 kV12 dc12 pm12 cd12 ct12 : Value}
    {od13 an13 : Option Addr}
    {sl13 : Array (Option Value)}
    {oc13 kV13 dc13 pm13 cd13 ct13 : Value}
    {od14 an14 : Option Addr}
    {sl14 : Array (Option Value)}
    {oc14 kV14 dc14 pm14 cd14 ct14 : Value}
    {od15 an15 : Option Addr}
    {sl15 : Array (Option Value)}
    {oc15 kV15 dc15 pm15 cd15 ct15 : Value}
    {od16 an16 : Option Addr}
    {sl16 : Array (Option Value)}
    {oc16 kV16 dc16 pm16 cd16 ct16 : Value}
    {od17 an17 : Option Addr}
    {sl17 : Array (Option Value)}
    {oc17 kV17 dc17 pm17 cd17 ct17 : Value}
    {od18 an18 : Option Addr}
    {sl18 : Array (Option Value)}
    {oc18 kV18 dc18 pm18 cd18 ct18 : Value}
    {od19 an19 : Option Addr}
    {sl19 : Array (Option Value)}
    {oc19 kV19 dc19 pm19 cd19 ct19 : Value}
    {od20 an20 : Option Addr}
    {sl20 : Array (Option Value)}
    {oc20 kV20 dc20 pm20 cd20 ct20 : Value}
    {od21 an21 : Option Addr}
    {sl21 : Array (Option Value)}
    {oc21 kV21 dc21 pm21 cd21 ct21 : Value}
    {od22 an22 : Option Addr}
    {sl22 : Array (Option Value)}
    {oc22 kV22 dc22 pm22 cd22 ct22 : Value}
    {od23 an23 : Option Addr}
    {sl23 : Array (Option Value)}
    {oc23 kV23 dc23 pm23 cd23 ct23 : Value}
    {od24 an24 : Option Addr}
    {sl24 : Array (Option Value)}
    {oc24 kV24 dc24 pm24 cd24 ct24 : Value}
    {od25 an25 : Option Addr}
    {sl25 : Array (Option Value)}
    {oc25 kV25 dc25 pm25 cd25 ct25 : Value}
    {od26 an26 : Option Addr}
    {sl26 : Array (Option Value)}
    {oc26 kV26 dc26 pm26 cd26 ct26 : Value}
    {od27 an27 : Option Addr}
    {sl27 : Array (Option Value)}
    {oc27 kV27 dc27 pm27 cd27 ct27 : Value}
    {od28 an28 : Option Addr}
    {sl28 : Array (Option Value)}
    {oc28 kV28 dc28 pm28 cd28 ct28 : Value}
    {od29 an29 : Option Addr}
    {sl29 : Array (Option Value)}
    {oc29 kV29 dc29 pm29 cd29 ct29 : Value}
    {od30 an30 : Option Addr}
    {sl30 : Array (Option Value)}
    {oc30 kV30 dc30 pm30 cd30 ct30 : Value}
    {od31 an31 : Option Addr}
    {sl31 : Array (Option Value)}
    {oc31 kV31 dc31 pm31 cd31 ct31 : Value}
    {od32 an32 : Option Addr}
    {sl32 : Array (Option Value)}
    {oc32 kV32 dc32 pm32 cd32 ct32 : Value}
    {od33 an33 : Option Addr}
    {sl33 : Array (Option Value)}
    {oc33 kV33 dc33 pm33 cd33 ct33 : Value}
    {od34 an34 : Option Addr}
    {sl34 : Array (Option Value)}
    {oc34 kV34 dc34 pm34 cd34 ct34 : Value}
    {od35 an35 : Option Addr}
    {sl35 : Array (Option Value)}
    {oc35 kV35 dc35 pm35 cd35 ct35 : Value}
    {od36 an36 : Option Addr}
    {sl36 : Array (Option Value)}
    {oc36 kV36 dc36 pm36 cd36 ct36 : Value}
    {od37 an37 : Option Addr}
    {sl37 : Array (Option Value)}
    {oc37 kV37 dc37 pm37 cd37 ct37 : Value}
    {od38 an38 : Option Addr}
    {sl38 : Array (Option Value)}
    {oc38 kV38 dc38 pm38 cd38 ct38 : Value}
    {od39 an39 : Option Addr}
    {sl39 : Array (Option Value)}
    {oc39 kV39 dc39 pm39 cd39 ct39 : Value}
    {od40 an40 : Option Addr}
    {sl40 : Array (Option Value)}
    {oc40 kV40 dc40 pm40 cd40 ct40 : Value}
    {od41 an41 : Option Addr}
    {sl41 : Array (Option Value)}
    {oc41 kV41 dc41 pm41 cd41 ct41 : Value}
    {od42 an42 : Option Addr}
    {sl42 : Array (Option Value)}
    {oc42 kV42 dc42 pm42 cd42 ct42 : Value}
    {tk_DEEDS : Tok}
    {tk_SIGNS_cubes : Tok}
    {tk_SIGNS_signs : Tok}
    (aC_Desk : PySem.W.nsIn K mainGlobals "Desk" = some (some (.ref C_Desk)))
    (pg_Desk : PySem.W.plainGet K C_Desk Str.empty = true)
    (hd_Desk : PySem.W.hasDictIn K C_Desk = true)
    (po_Desk : PySem.W.plainOver K C_Desk = true)
    (sa_Desk : PySem.W.findIn K (.ref C_Desk) "__setattr__" = some (some (.builtin "object.__setattr__")))
    (n_Desk_bars : PySem.W.findIn K (.ref C_Desk) "bars" = some none)
    (n_Desk_cube : PySem.W.findIn K (.ref C_Desk) "cube" = some none)
    (n_Desk_deeds : PySem.W.findIn K (.ref C_Desk) "deeds" = some none)
    (n_Desk_laid : PySem.W.findIn K (.ref C_Desk) "laid" = some none)
    (n_Desk_line : PySem.W.findIn K (.ref C_Desk) "line" = some none)
    (n_Desk_taken : PySem.W.findIn K (.ref C_Desk) "taken" = some none)
    (a0 : PySem.W.nsIn K mainGlobals "_law_cup" = some (some (.ref f0)))
    (l0 : K.lookup f0 = some ⟨oc0, od0, .func (PySem.W.fnOf "_law_cup" "_law_cup" (defArgs s__law_cup) (defBody s__law_cup) (defScope s__law_cup) .none kV0 dc0 pm0 an0 cd0 ct0), sl0⟩)
    (c0 : PySem.W.codeIn K cd0 "_law_cup" = true)
    (k0 : PySem.W.keepIn K (.ref f0) = true)
    (a1 : PySem.W.nsIn K mainGlobals "is_tuple_of" = some (some (.ref f1)))
    (l1 : K.lookup f1 = some ⟨oc1, od1, .func (PySem.W.fnOf "is_tuple_of" "is_tuple_of" (defArgs s_is_tuple_of) (defBody s_is_tuple_of) (defScope s_is_tuple_of) .none kV1 dc1 pm1 an1 cd1 ct1), sl1⟩)
    (c1 : PySem.W.codeIn K cd1 "is_tuple_of" = true)
    (k1 : PySem.W.keepIn K (.ref f1) = true)
    (a2 : PySem.W.nsIn K mainGlobals "fits_whole" = some (some (.ref f2)))
    (l2 : K.lookup f2 = some ⟨oc2, od2, .func (PySem.W.fnOf "fits_whole" "fits_whole" (defArgs s_fits_whole) (defBody s_fits_whole) (defScope s_fits_whole) .none kV2 dc2 pm2 an2 cd2 ct2), sl2⟩)
    (c2 : PySem.W.codeIn K cd2 "fits_whole" = true)
    (k2 : PySem.W.keepIn K (.ref f2) = true)
    (a3 : PySem.W.nsIn K mainGlobals "fits_word" = some (some (.ref f3)))
    (l3 : K.lookup f3 = some ⟨oc3, od3, .func (PySem.W.fnOf "fits_word" "fits_word" (defArgs s_fits_word) (defBody s_fits_word) (defScope s_fits_word) .none kV3 dc3 pm3 an3 cd3 ct3), sl3⟩)
    (c3 : PySem.W.codeIn K cd3 "fits_word" = true)
    (k3 : PySem.W.keepIn K (.ref f3) = true)
    (a4 : PySem.W.findIn K (.ref C_Desk) "need_word" = some (some (.ref f4)))
    (i4 : PySem.W.isFn K (.ref f4) = true)
    (l4 : K.lookup f4 = some ⟨oc4, od4, .func (PySem.W.fnOf "need_word" "Desk.need_word" (defArgs s_Desk_need_word) (defBody s_Desk_need_word) (defScope s_Desk_need_word) .none kV4 dc4 pm4 an4 cd4 ct4), sl4⟩)
    (c4 : PySem.W.codeIn K cd4 "Desk.need_word" = true)
    (k4 : PySem.W.keepIn K (.ref f4) = true)
    (a5 : PySem.W.nsIn K mainGlobals "turned_at" = some (some (.ref f5)))
    (l5 : K.lookup f5 = some ⟨oc5, od5, .func (PySem.W.fnOf "turned_at" "turned_at" (defArgs s_turned_at) (defBody s_turned_at) (defScope s_turned_at) .none kV5 dc5 pm5 an5 cd5 ct5), sl5⟩)
    (c5 : PySem.W.codeIn K cd5 "turned_at" = true)
    (k5 : PySem.W.keepIn K (.ref f5) = true)
    (a6 : PySem.W.findIn K (.ref C_Desk) "do" = some (some (.ref f6)))
    (i6 : PySem.W.isFn K (.ref f6) = true)
    (l6 : K.lookup f6 = some ⟨oc6, od6, .func (PySem.W.fnOf "do" "Desk.do" (defArgs s_Desk_do) (defBody s_Desk_do) (defScope s_Desk_do) .none kV6 dc6 pm6 an6 cd6 ct6), sl6⟩)
    (c6 : PySem.W.codeIn K cd6 "Desk.do" = true)
    (k6 : PySem.W.keepIn K (.ref f6) = true)
    (a7 : PySem.W.findIn K (.ref C_Desk) "can" = some (some (.ref f7)))
    (i7 : PySem.W.isFn K (.ref f7) = true)
    (l7 : K.lookup f7 = some ⟨oc7, od7, .func (PySem.W.fnOf "can" "Desk.can" (defArgs s_Desk_can) (defBody s_Desk_can) (defScope s_Desk_can) .none kV7 dc7 pm7 an7 cd7 ct7), sl7⟩)
    (c7 : PySem.W.codeIn K cd7 "Desk.can" = true)
    (k7 : PySem.W.keepIn K (.ref f7) = true)
    (a8 : PySem.W.findIn K (.ref C_Desk) "done" = some (some (.ref f8)))
    (i8 : PySem.W.isFn K (.ref f8) = true)
    (l8 : K.lookup f8 = some ⟨oc8, od8, .func (PySem.W.fnOf "done" "Desk.done" (defArgs s_Desk_done) (defBody s_Desk_done) (defScope s_Desk_done) .none kV8 dc8 pm8 an8 cd8 ct8), sl8⟩)
    (c8 : PySem.W.codeIn K cd8 "Desk.done" = true)
    (k8 : PySem.W.keepIn K (.ref f8) = true)
    (a9 : PySem.W.findIn K (.ref C_Desk) "begin" = some (some (.ref f9)))
    (i9 : PySem.W.isFn K (.ref f9) = true)
    (l9 : K.lookup f9 = some ⟨oc9, od9, .func (PySem.W.fnOf "begin" "Desk.begin" (defArgs s_Desk_begin) (defBody s_Desk_begin) (defScope s_Desk_begin) .none kV9 dc9 pm9 an9 cd9 ct9), sl9⟩)
    (c9 : PySem.W.codeIn K cd9 "Desk.begin" = true)
    (k9 : PySem.W.keepIn K (.ref f9) = true)
    (a10 : PySem.W.findIn K (.ref C_Desk) "turn" = some (some (.ref f10)))
    (i10 : PySem.W.isFn K (.ref f10) = true)
    (l10 : K.lookup f10 = some ⟨oc10, od10, .func (PySem.W.fnOf "turn" "Desk.turn" (defArgs s_Desk_turn) (defBody s_Desk_turn) (defScope s_Desk_turn) .none kV10 dc10 pm10 an10 cd10 ct10), sl10⟩)
    (c10 : PySem.W.codeIn K cd10 "Desk.turn" = true)
    (k10 : PySem.W.keepIn K (.ref f10) = true)
    (a11 : PySem.W.findIn K (.ref C_Desk) "clear" = some (some (.ref f11)))
    (i11 : PySem.W.isFn K (.ref f11) = true)
    (l11 : K.lookup f11 = some ⟨oc11, od11, .func (PySem.W.fnOf "clear" "Desk.clear" (defArgs s_Desk_clear) (defBody s_Desk_clear) (defScope s_Desk_clear) .none kV11 dc11 pm11 an11 cd11 ct11), sl11⟩)
    (c11 : PySem.W.codeIn K cd11 "Desk.clear" = true)
    (k11 : PySem.W.keepIn K (.ref f11) = true)
    (a12 : PySem.W.findIn K (.ref C_Desk) "again" = some (some (.ref f12)))
    (i12 : PySem.W.isFn K (.ref f12) = true)
    (l12 : K.lookup f12 = some ⟨oc12, od12, .func (PySem.W.fnOf "again" "Desk.again" (defArgs s_Desk_again) (defBody s_Desk_again) (defScope s_Desk_again) .none kV12 dc12 pm12 an12 cd12 ct12), sl12⟩)
    (c12 : PySem.W.codeIn K cd12 "Desk.again" = true)
    (k12 : PySem.W.keepIn K (.ref f12) = true)
    (a13 : PySem.W.findIn K (.ref C_Desk) "undo" = some (some (.ref f13)))
    (i13 : PySem.W.isFn K (.ref f13) = true)
    (l13 : K.lookup f13 = some ⟨oc13, od13, .func (PySem.W.fnOf "undo" "Desk.undo" (defArgs s_Desk_undo) (defBody s_Desk_undo) (defScope s_Desk_undo) .none kV13 dc13 pm13 an13 cd13 ct13), sl13⟩)
    (c13 : PySem.W.codeIn K cd13 "Desk.undo" = true)
    (k13 : PySem.W.keepIn K (.ref f13) = true)
    (a14 : PySem.W.findIn K (.ref C_Desk) "bar" = some (some (.ref f14)))
    (i14 : PySem.W.isFn K (.ref f14) = true)
    (l14 : K.lookup f14 = some ⟨oc14, od14, .func (PySem.W.fnOf "bar" "Desk.bar" (defArgs s_Desk_bar) (defBody s_Desk_bar) (defScope s_Desk_bar) .none kV14 dc14 pm14 an14 cd14 ct14), sl14⟩)
    (c14 : PySem.W.codeIn K cd14 "Desk.bar" = true)
    (k14 : PySem.W.keepIn K (.ref f14) = true)
    (a15 : PySem.W.nsIn K mainGlobals "fits_cube" = some (some (.ref f15)))
    (l15 : K.lookup f15 = some ⟨oc15, od15, .func (PySem.W.fnOf "fits_cube" "fits_cube" (defArgs s_fits_cube) (defBody s_fits_cube) (defScope s_fits_cube) .none kV15 dc15 pm15 an15 cd15 ct15), sl15⟩)
    (c15 : PySem.W.codeIn K cd15 "fits_cube" = true)
    (k15 : PySem.W.keepIn K (.ref f15) = true)
    (a16 : PySem.W.nsIn K mainGlobals "need_cube" = some (some (.ref f16)))
    (l16 : K.lookup f16 = some ⟨oc16, od16, .func (PySem.W.fnOf "need_cube" "need_cube" (defArgs s_need_cube) (defBody s_need_cube) (defScope s_need_cube) .none kV16 dc16 pm16 an16 cd16 ct16), sl16⟩)
    (c16 : PySem.W.codeIn K cd16 "need_cube" = true)
    (k16 : PySem.W.keepIn K (.ref f16) = true)
    (a17 : PySem.W.findIn K (.ref C_Desk) "__init__" = some (some (.ref f17)))
    (i17 : PySem.W.isFn K (.ref f17) = true)
    (l17 : K.lookup f17 = some ⟨oc17, od17, .func (PySem.W.fnOf "__init__" "Desk.__init__" (defArgs s_Desk___init__) (defBody s_Desk___init__) (defScope s_Desk___init__) .none kV17 dc17 pm17 an17 cd17 ct17), sl17⟩)
    (c17 : PySem.W.codeIn K cd17 "Desk.__init__" = true)
    (k17 : PySem.W.keepIn K (.ref f17) = true)
    (a18 : PySem.W.findIn K (.ref C_Desk) "words" = some (some (.ref f18)))
    (i18 : PySem.W.isFn K (.ref f18) = true)
    (l18 : K.lookup f18 = some ⟨oc18, od18, .func (PySem.W.fnOf "words" "Desk.words" (defArgs s_Desk_words) (defBody s_Desk_words) (defScope s_Desk_words) .none kV18 dc18 pm18 an18 cd18 ct18), sl18⟩)
    (c18 : PySem.W.codeIn K cd18 "Desk.words" = true)
    (k18 : PySem.W.keepIn K (.ref f18) = true)
    (a19 : PySem.W.findIn K (.ref C_Desk) "able" = some (some (.ref f19)))
    (i19 : PySem.W.isFn K (.ref f19) = true)
    (l19 : K.lookup f19 = some ⟨oc19, od19, .func (PySem.W.fnOf "able" "Desk.able" (defArgs s_Desk_able) (defBody s_Desk_able) (defScope s_Desk_able) .none kV19 dc19 pm19 an19 cd19 ct19), sl19⟩)
    (c19 : PySem.W.codeIn K cd19 "Desk.able" = true)
    (k19 : PySem.W.keepIn K (.ref f19) = true)
    (a20 : PySem.W.nsIn K mainGlobals "all_words" = some (some (.ref f20)))
    (l20 : K.lookup f20 = some ⟨oc20, od20, .func (PySem.W.fnOf "all_words" "all_words" (defArgs s_all_words) (defBody s_all_words) (defScope s_all_words) .none kV20 dc20 pm20 an20 cd20 ct20), sl20⟩)
    (c20 : PySem.W.codeIn K cd20 "all_words" = true)
    (k20 : PySem.W.keepIn K (.ref f20) = true)
    (a21 : PySem.W.findIn K (.ref C_Desk) "left" = some (some (.ref f21)))
    (i21 : PySem.W.isFn K (.ref f21) = true)
    (l21 : K.lookup f21 = some ⟨oc21, od21, .func (PySem.W.fnOf "left" "Desk.left" (defArgs s_Desk_left) (defBody s_Desk_left) (defScope s_Desk_left) .none kV21 dc21 pm21 an21 cd21 ct21), sl21⟩)
    (c21 : PySem.W.codeIn K cd21 "Desk.left" = true)
    (k21 : PySem.W.keepIn K (.ref f21) = true)
    (a22 : PySem.W.findIn K (.ref C_Desk) "is_whole" = some (some (.ref f22)))
    (i22 : PySem.W.isFn K (.ref f22) = true)
    (l22 : K.lookup f22 = some ⟨oc22, od22, .func (PySem.W.fnOf "is_whole" "Desk.is_whole" (defArgs s_Desk_is_whole) (defBody s_Desk_is_whole) (defScope s_Desk_is_whole) .none kV22 dc22 pm22 an22 cd22 ct22), sl22⟩)
    (c22 : PySem.W.codeIn K cd22 "Desk.is_whole" = true)
    (k22 : PySem.W.keepIn K (.ref f22) = true)
    (a23 : PySem.W.nsIn K mainGlobals "_law_rows_right" = some (some (.ref f23)))
    (l23 : K.lookup f23 = some ⟨oc23, od23, .func (PySem.W.fnOf "_law_rows_right" "_law_rows_right" (defArgs s__law_rows_right) (defBody s__law_rows_right) (defScope s__law_rows_right) .none kV23 dc23 pm23 an23 cd23 ct23), sl23⟩)
    (c23 : PySem.W.codeIn K cd23 "_law_rows_right" = true)
    (k23 : PySem.W.keepIn K (.ref f23) = true)
    (a24 : PySem.W.nsIn K mainGlobals "_law_roll" = some (some (.ref f24)))
    (l24 : K.lookup f24 = some ⟨oc24, od24, .func (PySem.W.fnOf "_law_roll" "_law_roll" (defArgs s__law_roll) (defBody s__law_roll) (defScope s__law_roll) .none kV24 dc24 pm24 an24 cd24 ct24), sl24⟩)
    (c24 : PySem.W.codeIn K cd24 "_law_roll" = true)
    (k24 : PySem.W.keepIn K (.ref f24) = true)
    (a25 : PySem.W.nsIn K mainGlobals "_law_word" = some (some (.ref f25)))
    (l25 : K.lookup f25 = some ⟨oc25, od25, .func (PySem.W.fnOf "_law_word" "_law_word" (defArgs s__law_word) (defBody s__law_word) (defScope s__law_word) .none kV25 dc25 pm25 an25 cd25 ct25), sl25⟩)
    (c25 : PySem.W.codeIn K cd25 "_law_word" = true)
    (k25 : PySem.W.keepIn K (.ref f25) = true)
    (a26 : PySem.W.nsIn K mainGlobals "_law_cube" = some (some (.ref f26)))
    (l26 : K.lookup f26 = some ⟨oc26, od26, .func (PySem.W.fnOf "_law_cube" "_law_cube" (defArgs s__law_cube) (defBody s__law_cube) (defScope s__law_cube) .none kV26 dc26 pm26 an26 cd26 ct26), sl26⟩)
    (c26 : PySem.W.codeIn K cd26 "_law_cube" = true)
    (k26 : PySem.W.keepIn K (.ref f26) = true)
    (a27 : PySem.W.nsIn K mainGlobals "_law_turn" = some (some (.ref f27)))
    (l27 : K.lookup f27 = some ⟨oc27, od27, .func (PySem.W.fnOf "_law_turn" "_law_turn" (defArgs s__law_turn) (defBody s__law_turn) (defScope s__law_turn) .none kV27 dc27 pm27 an27 cd27 ct27), sl27⟩)
    (c27 : PySem.W.codeIn K cd27 "_law_turn" = true)
    (k27 : PySem.W.keepIn K (.ref f27) = true)
    (a28 : PySem.W.nsIn K mainGlobals "_law_at" = some (some (.ref f28)))
    (l28 : K.lookup f28 = some ⟨oc28, od28, .func (PySem.W.fnOf "_law_at" "_law_at" (defArgs s__law_at) (defBody s__law_at) (defScope s__law_at) .none kV28 dc28 pm28 an28 cd28 ct28), sl28⟩)
    (c28 : PySem.W.codeIn K cd28 "_law_at" = true)
    (k28 : PySem.W.keepIn K (.ref f28) = true)
    (a29 : PySem.W.nsIn K mainGlobals "_law_same" = some (some (.ref f29)))
    (l29 : K.lookup f29 = some ⟨oc29, od29, .func (PySem.W.fnOf "_law_same" "_law_same" (defArgs s__law_same) (defBody s__law_same) (defScope s__law_same) .none kV29 dc29 pm29 an29 cd29 ct29), sl29⟩)
    (c29 : PySem.W.codeIn K cd29 "_law_same" = true)
    (k29 : PySem.W.keepIn K (.ref f29) = true)
    (a30 : PySem.W.findIn K (.ref C_Desk) "barred" = some (some (.ref f30)))
    (i30 : PySem.W.isFn K (.ref f30) = true)
    (l30 : K.lookup f30 = some ⟨oc30, od30, .func (PySem.W.fnOf "barred" "Desk.barred" (defArgs s_Desk_barred) (defBody s_Desk_barred) (defScope s_Desk_barred) .none kV30 dc30 pm30 an30 cd30 ct30), sl30⟩)
    (c30 : PySem.W.codeIn K cd30 "Desk.barred" = true)
    (k30 : PySem.W.keepIn K (.ref f30) = true)
    (a31 : PySem.W.findIn K (.ref C_Desk) "log" = some (some (.ref f31)))
    (i31 : PySem.W.isFn K (.ref f31) = true)
    (l31 : K.lookup f31 = some ⟨oc31, od31, .func (PySem.W.fnOf "log" "Desk.log" (defArgs s_Desk_log) (defBody s_Desk_log) (defScope s_Desk_log) .none kV31 dc31 pm31 an31 cd31 ct31), sl31⟩)
    (c31 : PySem.W.codeIn K cd31 "Desk.log" = true)
    (k31 : PySem.W.keepIn K (.ref f31) = true)
    (a32 : PySem.W.nsIn K mainGlobals "_law_all" = some (some (.ref f32)))
    (l32 : K.lookup f32 = some ⟨oc32, od32, .func (PySem.W.fnOf "_law_all" "_law_all" (defArgs s__law_all) (defBody s__law_all) (defScope s__law_all) .none kV32 dc32 pm32 an32 cd32 ct32), sl32⟩)
    (c32 : PySem.W.codeIn K cd32 "_law_all" = true)
    (k32 : PySem.W.keepIn K (.ref f32) = true)
    (a33 : PySem.W.nsIn K mainGlobals "unlike_in" = some (some (.ref f33)))
    (l33 : K.lookup f33 = some ⟨oc33, od33, .func (PySem.W.fnOf "unlike_in" "unlike_in" (defArgs s_unlike_in) (defBody s_unlike_in) (defScope s_unlike_in) .none kV33 dc33 pm33 an33 cd33 ct33), sl33⟩)
    (c33 : PySem.W.codeIn K cd33 "unlike_in" = true)
    (k33 : PySem.W.keepIn K (.ref f33) = true)
    (a34 : PySem.W.findIn K (.ref C_Desk) "is_round" = some (some (.ref f34)))
    (i34 : PySem.W.isFn K (.ref f34) = true)
    (l34 : K.lookup f34 = some ⟨oc34, od34, .func (PySem.W.fnOf "is_round" "Desk.is_round" (defArgs s_Desk_is_round) (defBody s_Desk_is_round) (defScope s_Desk_is_round) .none kV34 dc34 pm34 an34 cd34 ct34), sl34⟩)
    (c34 : PySem.W.codeIn K cd34 "Desk.is_round" = true)
    (k34 : PySem.W.keepIn K (.ref f34) = true)
    (a35 : PySem.W.nsIn K mainGlobals "_law_unlike" = some (some (.ref f35)))
    (l35 : K.lookup f35 = some ⟨oc35, od35, .func (PySem.W.fnOf "_law_unlike" "_law_unlike" (defArgs s__law_unlike) (defBody s__law_unlike) (defScope s__law_unlike) .none kV35 dc35 pm35 an35 cd35 ct35), sl35⟩)
    (c35 : PySem.W.codeIn K cd35 "_law_unlike" = true)
    (k35 : PySem.W.keepIn K (.ref f35) = true)
    (a36 : PySem.W.nsIn K mainGlobals "_law_is_as" = some (some (.ref f36)))
    (l36 : K.lookup f36 = some ⟨oc36, od36, .func (PySem.W.fnOf "_law_is_as" "_law_is_as" (defArgs s__law_is_as) (defBody s__law_is_as) (defScope s__law_is_as) .none kV36 dc36 pm36 an36 cd36 ct36), sl36⟩)
    (c36 : PySem.W.codeIn K cd36 "_law_is_as" = true)
    (k36 : PySem.W.keepIn K (.ref f36) = true)
    (a37 : PySem.W.nsIn K mainGlobals "_law_some" = some (some (.ref f37)))
    (l37 : K.lookup f37 = some ⟨oc37, od37, .func (PySem.W.fnOf "_law_some" "_law_some" (defArgs s__law_some) (defBody s__law_some) (defScope s__law_some) .none kV37 dc37 pm37 an37 cd37 ct37), sl37⟩)
    (c37 : PySem.W.codeIn K cd37 "_law_some" = true)
    (k37 : PySem.W.keepIn K (.ref f37) = true)
    (a38 : PySem.W.nsIn K mainGlobals "_law_drawn" = some (some (.ref f38)))
    (l38 : K.lookup f38 = some ⟨oc38, od38, .func (PySem.W.fnOf "_law_drawn" "_law_drawn" (defArgs s__law_drawn) (defBody s__law_drawn) (defScope s__law_drawn) .none kV38 dc38 pm38 an38 cd38 ct38), sl38⟩)
    (c38 : PySem.W.codeIn K cd38 "_law_drawn" = true)
    (k38 : PySem.W.keepIn K (.ref f38) = true)
    (a39 : PySem.W.findIn K (.ref C_Desk) "redo" = some (some (.ref f39)))
    (i39 : PySem.W.isFn K (.ref f39) = true)
    (l39 : K.lookup f39 = some ⟨oc39, od39, .func (PySem.W.fnOf "redo" "Desk.redo" (defArgs s_Desk_redo) (defBody s_Desk_redo) (defScope s_Desk_redo) .none kV39 dc39 pm39 an39 cd39 ct39), sl39⟩)
    (c39 : PySem.W.codeIn K cd39 "Desk.redo" = true)
    (k39 : PySem.W.keepIn K (.ref f39) = true)
    (a40 : PySem.W.findIn K (.ref C_Desk) "free" = some (some (.ref f40)))
    (i40 : PySem.W.isFn K (.ref f40) = true)
    (l40 : K.lookup f40 = some ⟨oc40, od40, .func (PySem.W.fnOf "free" "Desk.free" (defArgs s_Desk_free) (defBody s_Desk_free) (defScope s_Desk_free) .none kV40 dc40 pm40 an40 cd40 ct40), sl40⟩)
    (c40 : PySem.W.codeIn K cd40 "Desk.free" = true)
    (k40 : PySem.W.keepIn K (.ref f40) = true)
    (a41 : PySem.W.nsIn K mainGlobals "_law_do" = some (some (.ref f41)))
    (l41 : K.lookup f41 = some ⟨oc41, od41, .func (PySem.W.fnOf "_law_do" "_law_do" (defArgs s__law_do) (defBody s__law_do) (defScope s__law_do) .none kV41 dc41 pm41 an41 cd41 ct41), sl41⟩)
    (c41 : PySem.W.codeIn K cd41 "_law_do" = true)
    (k41 : PySem.W.keepIn K (.ref f41) = true)
    (a42 : PySem.W.nsIn K mainGlobals "law" = some (some (.ref f42)))
    (l42 : K.lookup f42 = some ⟨oc42, od42, .func (PySem.W.fnOf "law" "law" (defArgs s_law) (defBody s_law) (defScope s_law) .none kV42 dc42 pm42 an42 cd42 ct42), sl42⟩)
    (c42 : PySem.W.codeIn K cd42 "law" = true)
    (k42 : PySem.W.keepIn K (.ref f42) = true)
    (ms_Desk : PySem.W.makesIn K C_Desk = true)
    (kc_Desk : PySem.W.keepIn K (.ref C_Desk) = true)
    (z_abs : PySem.W.nsIn K mainGlobals "abs" = some none)
    (z_all : PySem.W.nsIn K mainGlobals "all" = some none)
    (z_bool : PySem.W.nsIn K mainGlobals "bool" = some none)
    (z_dict : PySem.W.nsIn K mainGlobals "dict" = some none)
    (z_enumerate : PySem.W.nsIn K mainGlobals "enumerate" = some none)
    (z_int : PySem.W.nsIn K mainGlobals "int" = some none)
    (z_isinstance : PySem.W.nsIn K mainGlobals "isinstance" = some none)
    (z_len : PySem.W.nsIn K mainGlobals "len" = some none)
    (z_list : PySem.W.nsIn K mainGlobals "list" = some none)
    (z_range : PySem.W.nsIn K mainGlobals "range" = some none)
    (z_set : PySem.W.nsIn K mainGlobals "set" = some none)
    (z_sorted : PySem.W.nsIn K mainGlobals "sorted" = some none)
    (z_str : PySem.W.nsIn K mainGlobals "str" = some none)
    (z_tuple : PySem.W.nsIn K mainGlobals "tuple" = some none)
    (z_zip : PySem.W.nsIn K mainGlobals "zip" = some none)
    (k_DEEDS : PySem.W.nsIn K mainGlobals "DEEDS" = some (some (.int 2000 tk_DEEDS)))
    (k_SIGNS_cubes : PySem.W.nsIn K mainGlobals "SIGNS_cubes" = some (some (.int 6 tk_SIGNS_cubes)))
    (k_SIGNS_signs : PySem.W.nsIn K mainGlobals "SIGNS_signs" = some (some (.int 16 tk_SIGNS_signs)))
    : ∃ fd : FuncData, (∀ (s : Shared) (v : Value), BindsTo s fd ⟨[v], []⟩ [("script", v)]) ∧ ∀ base : Heap, K.In base → base.Ns mainGlobals mg → FnOk l.prog w K mg base (L2.CX l.prog w) 11 fa fd ["script"] (spLaw K 63) := by
  have e := hfa.symm.trans (PySem.W.mg_of X G a42)
  cases e
  refine ⟨_, fun s v => .of_eq rfl, fun base _ _ => law_ok (ok_law (txOf (fa := fa) X G aC_Desk pg_Desk hd_Desk po_Desk sa_Desk n_Desk_bars n_Desk_cube n_Desk_deeds n_Desk_laid n_Desk_line n_Desk_taken a0 l0 c0 k0 a1 l1 c1 k1 a2 l2 c2 k2 a3 l3 c3 k3 a4 i4 l4 c4 k4 a5 l5 c5 k5 a6 i6 l6 c6 k6 a7 i7 l7 c7 k7 a8 i8 l8 c8 k8 a9 i9 l9 c9 k9 a10 i10 l10 c10 k10 a11 i11 l11 c11 k11 a12 i12 l12 c12 k12 a13 i13 l13 c13 k13 a14 i14 l14 c14 k14 a15 l15 c15 k15 a16 l16 c16 k16 a17 i17 l17 c17 k17 a18 i18 l18 c18 k18 a19 i19 l19 c19 k19 a20 l20 c20 k20 a21 i21 l21 c21 k21 a22 i22 l22 c22 k22 a23 l23 c23 k23 a24 l24 c24 k24 a25 l25 c25 k25 a26 l26 c26 k26 a27 l27 c27 k27 a28 l28 c28 k28 a29 l29 c29 k29 a30 i30 l30 c30 k30 a31 i31 l31 c31 k31 a32 l32 c32 k32 a33 l33 c33 k33 a34 i34 l34 c34 k34 a35 l35 c35 k35 a36 l36 c36 k36 a37 l37 c37 k37 a38 l38 c38 k38 a39 i39 l39 c39 k39 a40 i40 l40 c40 k40 a41 l41 c41 k41 a42 l42 c42 k42 ms_Desk kc_Desk z_abs z_all z_bool z_dict z_enumerate z_int z_isinstance z_len z_list z_range z_set z_sorted z_str z_tuple z_zip k_DEEDS k_SIGNS_cubes k_SIGNS_signs)) law_true⟩
end K63
open PySem PySem.W PyProof.Rows
set_option maxHeartbeats 0 in
theorem PySem.Challenge.cw_signway_k63_whole_desks_beside_their_dee_holds : PySem.Challenge.rw_signway_k63_whole_desks_beside_their_dee.Holds := by
  w_on; o_law; k_head; (case hw => w_witness2)
  k_fill
  refine L2.walk_of (l := PySem.Challenge.rw_signway_k63_whole_desks_beside_their_dee) (n := 63) (k := 11) (x := "script") (CX := fun w => L2.CX (PySem.Challenge.rw_signway_k63_whole_desks_beside_their_dee).prog w) (sp := fun w => L3.spLaw _ 63) rfl (by decide) rfl ⟨rfl, by decide, by decide⟩ (fun w h Y => PySem.W.kIn_of Y) ?F (fun _ _ a ns hl _ hS => ⟨a, ns, rfl, hS, hl, fun _ => rfl⟩) (fun _ _ _ _ _ h => L3.cx_end h)
  case F =>
    intro w mg fa h KX G hmg
    refine' K63.all_mk KX G hmg ?aC_Desk ?pg_Desk ?hd_Desk ?po_Desk ?sa_Desk ?n_Desk_bars ?n_Desk_cube ?n_Desk_deeds ?n_Desk_laid ?n_Desk_line ?n_Desk_taken ?a0 ?l0 ?c0 ?k0 ?a1 ?l1 ?c1 ?k1 ?a2 ?l2 ?c2 ?k2 ?a3 ?l3 ?c3 ?k3 ?a4 ?i4 ?l4 ?c4 ?k4 ?a5 ?l5 ?c5 ?k5 ?a6 ?i6 ?l6 ?c6 ?k6 ?a7 ?i7 ?l7 ?c7 ?k7 ?a8 ?i8 ?l8 ?c8 ?k8 ?a9 ?i9 ?l9 ?c9 ?k9 ?a10 ?i10 ?l10 ?c10 ?k10 ?a11 ?i11 ?l11 ?c11 ?k11 ?a12 ?i12 ?l12 ?c12 ?k12 ?a13 ?i13 ?l13 ?c13 ?k13 ?a14 ?i14 ?l14 ?c14 ?k14 ?a15 ?l15 ?c15 ?k15 ?a16 ?l16 ?c16 ?k16 ?a17 ?i17 ?l17 ?c17 ?k17 ?a18 ?i18 ?l18 ?c18 ?k18 ?a19 ?i19 ?l19 ?c19 ?k19 ?a20 ?l20 ?c20 ?k20 ?a21 ?i21 ?l21 ?c21 ?k21 ?a22 ?i22 ?l22 ?c22 ?k22 ?a23 ?l23 ?c23 ?k23 ?a24 ?l24 ?c24 ?k24 ?a25 ?l25 ?c25 ?k25 ?a26 ?l26 ?c26 ?k26 ?a27 ?l27 ?c27 ?k27 ?a28 ?l28 ?c28 ?k28 ?a29 ?l29 ?c29 ?k29 ?a30 ?i30 ?l30 ?c30 ?k30 ?a31 ?i31 ?l31 ?c31 ?k31 ?a32 ?l32 ?c32 ?k32 ?a33 ?l33 ?c33 ?k33 ?a34 ?i34 ?l34 ?c34 ?k34 ?a35 ?l35 ?c35 ?k35 ?a36 ?l36 ?c36 ?k36 ?a37 ?l37 ?c37 ?k37 ?a38 ?l38 ?c38 ?k38 ?a39 ?i39 ?l39 ?c39 ?k39 ?a40 ?i40 ?l40 ?c40 ?k40 ?a41 ?l41 ?c41 ?k41 ?a42 ?l42 ?c42 ?k42 ?ms_Desk ?kc_Desk ?z_abs ?z_all ?z_bool ?z_dict ?z_enumerate ?z_int ?z_isinstance ?z_len ?z_list ?z_range ?z_set ?z_sorted ?z_str ?z_tuple ?z_zip ?k_DEEDS ?k_SIGNS_cubes ?k_SIGNS_signs
    (case aC_Desk => k_is)
    (case pg_Desk => k_is)
    (case hd_Desk => k_is)
    (case po_Desk => k_is)
    (case sa_Desk => k_is)
    (case n_Desk_bars => k_is)
    (case n_Desk_cube => k_is)
    (case n_Desk_deeds => k_is)
    (case n_Desk_laid => k_is)
    (case n_Desk_line => k_is)
    (case n_Desk_taken => k_is)
    (case a0 => k_is)
    (case l0 => k_is)
    (case c0 => k_is)
    (case k0 => k_is)
    (case a1 => k_is)
    (case l1 => k_is)
    (case c1 => k_is)
    (case k1 => k_is)
    (case a2 => k_is)
    (case l2 => k_is)
    (case c2 => k_is)
    (case k2 => k_is)
    (case a3 => k_is)
    (case l3 => k_is)
    (case c3 => k_is)
    (case k3 => k_is)
    (case a4 => k_is)
    (case i4 => k_is)
    (case l4 => k_is)
    (case c4 => k_is)
    (case k4 => k_is)
    (case a5 => k_is)
    (case l5 => k_is)
    (case c5 => k_is)
    (case k5 => k_is)
    (case a6 => k_is)
    (case i6 => k_is)
    (case l6 => k_is)
    (case c6 => k_is)
    (case k6 => k_is)
    (case a7 => k_is)
    (case i7 => k_is)
    (case l7 => k_is)
    (case c7 => k_is)
    (case k7 => k_is)
    (case a8 => k_is)
    (case i8 => k_is)
    (case l8 => k_is)
    (case c8 => k_is)
    (case k8 => k_is)
    (case a9 => k_is)
    (case i9 => k_is)
    (case l9 => k_is)
    (case c9 => k_is)
    (case k9 => k_is)
    (case a10 => k_is)
    (case i10 => k_is)
    (case l10 => k_is)
    (case c10 => k_is)
    (case k10 => k_is)
    (case a11 => k_is)
    (case i11 => k_is)
    (case l11 => k_is)
    (case c11 => k_is)
    (case k11 => k_is)
    (case a12 => k_is)
    (case i12 => k_is)
    (case l12 => k_is)
    (case c12 => k_is)
    (case k12 => k_is)
    (case a13 => k_is)
    (case i13 => k_is)
    (case l13 => k_is)
    (case c13 => k_is)
    (case k13 => k_is)
    (case a14 => k_is)
    (case i14 => k_is)
    (case l14 => k_is)
    (case c14 => k_is)
    (case k14 => k_is)
    (case a15 => k_is)
    (case l15 => k_is)
    (case c15 => k_is)
    (case k15 => k_is)
    (case a16 => k_is)
    (case l16 => k_is)
    (case c16 => k_is)
    (case k16 => k_is)
    (case a17 => k_is)
    (case i17 => k_is)
    (case l17 => k_is)
    (case c17 => k_is)
    (case k17 => k_is)
    (case a18 => k_is)
    (case i18 => k_is)
    (case l18 => k_is)
    (case c18 => k_is)
    (case k18 => k_is)
    (case a19 => k_is)
    (case i19 => k_is)
    (case l19 => k_is)
    (case c19 => k_is)
    (case k19 => k_is)
    (case a20 => k_is)
    (case l20 => k_is)
    (case c20 => k_is)
    (case k20 => k_is)
    (case a21 => k_is)
    (case i21 => k_is)
    (case l21 => k_is)
    (case c21 => k_is)
    (case k21 => k_is)
    (case a22 => k_is)
    (case i22 => k_is)
    (case l22 => k_is)
    (case c22 => k_is)
    (case k22 => k_is)
    (case a23 => k_is)
    (case l23 => k_is)
    (case c23 => k_is)
    (case k23 => k_is)
    (case a24 => k_is)
    (case l24 => k_is)
    (case c24 => k_is)
    (case k24 => k_is)
    (case a25 => k_is)
    (case l25 => k_is)
    (case c25 => k_is)
    (case k25 => k_is)
    (case a26 => k_is)
    (case l26 => k_is)
    (case c26 => k_is)
    (case k26 => k_is)
    (case a27 => k_is)
    (case l27 => k_is)
    (case c27 => k_is)
    (case k27 => k_is)
    (case a28 => k_is)
    (case l28 => k_is)
    (case c28 => k_is)
    (case k28 => k_is)
    (case a29 => k_is)
    (case l29 => k_is)
    (case c29 => k_is)
    (case k29 => k_is)
    (case a30 => k_is)
    (case i30 => k_is)
    (case l30 => k_is)
    (case c30 => k_is)
    (case k30 => k_is)
    (case a31 => k_is)
    (case i31 => k_is)
    (case l31 => k_is)
    (case c31 => k_is)
    (case k31 => k_is)
    (case a32 => k_is)
    (case l32 => k_is)
    (case c32 => k_is)
    (case k32 => k_is)
    (case a33 => k_is)
    (case l33 => k_is)
    (case c33 => k_is)
    (case k33 => k_is)
    (case a34 => k_is)
    (case i34 => k_is)
    (case l34 => k_is)
    (case c34 => k_is)
    (case k34 => k_is)
    (case a35 => k_is)
    (case l35 => k_is)
    (case c35 => k_is)
    (case k35 => k_is)
    (case a36 => k_is)
    (case l36 => k_is)
    (case c36 => k_is)
    (case k36 => k_is)
    (case a37 => k_is)
    (case l37 => k_is)
    (case c37 => k_is)
    (case k37 => k_is)
    (case a38 => k_is)
    (case l38 => k_is)
    (case c38 => k_is)
    (case k38 => k_is)
    (case a39 => k_is)
    (case i39 => k_is)
    (case l39 => k_is)
    (case c39 => k_is)
    (case k39 => k_is)
    (case a40 => k_is)
    (case i40 => k_is)
    (case l40 => k_is)
    (case c40 => k_is)
    (case k40 => k_is)
    (case a41 => k_is)
    (case l41 => k_is)
    (case c41 => k_is)
    (case k41 => k_is)
    (case a42 => k_is)
    (case l42 => k_is)
    (case c42 => k_is)
    (case k42 => k_is)
    (case ms_Desk => k_is)
    (case kc_Desk => k_is)
    (case z_abs => k_is)
    (case z_all => k_is)
    (case z_bool => k_is)
    (case z_dict => k_is)
    (case z_enumerate => k_is)
    (case z_int => k_is)
    (case z_isinstance => k_is)
    (case z_len => k_is)
    (case z_list => k_is)
    (case z_range => k_is)
    (case z_set => k_is)
    (case z_sorted => k_is)
    (case z_str => k_is)
    (case z_tuple => k_is)
    (case z_zip => k_is)
    (case k_DEEDS => k_is)
    (case k_SIGNS_cubes => k_is)
    (case k_SIGNS_signs => k_is)
