import PyProof.Rows.All
import Wide.All
import OpenK.AllK
import Wide.FinOn
import HandS.ForMost
import HandS.Walk
import HandS.Zip
import HandS.Star
import HandS.Wide
import HandS.Gcd
import HandS.Deep
import HandS.Style
import HandS.Flow
import HandS.TupAny
import HandS.Conv
import HandS.RaiseMore
import HandS.NoneIn
import KE.GoesZip
import KE.GoesMore
import PyProof.CallFns
import PySem.Challenge.RW_termmaps_k58_borders_by_their_words
set_option Elab.async false
set_option linter.all false
set_option maxRecDepth 100000
set_option maxHeartbeats 4000000
/-! Ab: a second layer over the hand layer: what a def does, told over plain data D (ints, texts, lists, tuples, instances) and slots that hold data, with no heap in sight; a def's own lists may grow; one pen is drawn from. -/
namespace Ab
open PySem PySem.Spec PyProof.Rows L2

/-! ### plain data -/
inductive D where
  | non | bl (b : Bool) | int (i : Int) | str (x : Str)
  | lst (ds : List D) | tup (ds : List D)
  | obj (C : Addr) (ns : List Str) (ds : List D)
  | dic (ks : List Key) (ds : List D)

theorem sqt_mono {K : PySem.W.Frag} {H H' : Hp} {a : Addr} {xs : List V} (e : Same H H') (h : SqT K H a xs) : SqT K H' a xs := by
  rcases h with (h | ⟨o, h⟩) | h
  · exact .inl (.inl (e _ _ h))
  · exact .inl (.inr ⟨o, e _ _ h⟩)
  · exact .inr h

mutual
inductive Rep (K : PySem.W.Frag) (H : Hp) : V → D → Prop
  | non : Rep K H .non .non
  | bl (b : Bool) : Rep K H (.bl b) (.bl b)
  | int (i : Int) : Rep K H (.int i) (.int i)
  | str (x : Str) : Rep K H (.str x) (.str x)
  | lst {a : Addr} {xs : List V} {ds : List D} : H a = some (.lst xs) → RepAll K H xs ds → Rep K H (.ref a) (.lst ds)
  | tup {a : Addr} {xs : List V} {ds : List D} : SqT K H a xs → RepAll K H xs ds → Rep K H (.ref a) (.tup ds)
  | obj {a C dx : Addr} {fs : List (Str × V)} {ns : List Str} {ds : List D} : H a = some (.ins C dx fs) → ns = fs.map (·.1) → RepAll K H (fs.map (·.2)) ds → Rep K H (.ref a) (.obj C ns ds)
  | dic {a : Addr} {kvs : List (Key × V)} {ks : List Key} {ds : List D} : H a = some (.dK kvs) → ks = kvs.map (·.1) → RepAll K H (kvs.map (·.2)) ds → Rep K H (.ref a) (.dic ks ds)
inductive RepAll (K : PySem.W.Frag) (H : Hp) : List V → List D → Prop
  | nil : RepAll K H [] []
  | cons {v : V} {vs : List V} {d : D} {ds : List D} : Rep K H v d → RepAll K H vs ds → RepAll K H (v :: vs) (d :: ds)
end

mutual
theorem Rep.mono {K : PySem.W.Frag} {H H' : Hp} (e : Same H H') : ∀ {v : V} {d : D}, Rep K H v d → Rep K H' v d
  | _, _, .non => .non
  | _, _, .bl b => .bl b
  | _, _, .int i => .int i
  | _, _, .str x => .str x
  | _, _, .lst h r => .lst (e _ _ h) (RepAll.mono e r)
  | _, _, .tup h r => .tup (sqt_mono e h) (RepAll.mono e r)
  | _, _, .obj h n r => .obj (e _ _ h) n (RepAll.mono e r)
  | _, _, .dic h n r => .dic (e _ _ h) n (RepAll.mono e r)
theorem RepAll.mono {K : PySem.W.Frag} {H H' : Hp} (e : Same H H') : ∀ {vs : List V} {ds : List D}, RepAll K H vs ds → RepAll K H' vs ds
  | _, _, .nil => .nil
  | _, _, .cons r t => .cons (Rep.mono e r) (RepAll.mono e t)
end

section
variable {K : PySem.W.Frag} {H : Hp}
theorem RepAll.length : ∀ {vs : List V} {ds : List D}, RepAll K H vs ds → vs.length = ds.length
  | _, _, .nil => rfl
  | _, _, .cons _ t => by rw [List.length_cons, List.length_cons, RepAll.length t]
theorem RepAll.get : ∀ {vs : List V} {ds : List D} {i : Nat} {d : D}, RepAll K H vs ds → ds[i]? = some d → ∃ v, vs[i]? = some v ∧ Rep K H v d
  | _, _, _, _, .nil, e => by simp at e
  | _, _, 0, _, .cons r _, e => by
    simp at e
    subst e
    exact ⟨_, rfl, r⟩
  | _, _, i + 1, _, .cons _ t, e => by
    obtain ⟨v, h1, h2⟩ := RepAll.get (i := i) t (by simpa using e)
    exact ⟨v, by simpa using h1, h2⟩
theorem RepAll.getV : ∀ {vs : List V} {ds : List D} {i : Nat} {v : V}, RepAll K H vs ds → vs[i]? = some v → ∃ d, ds[i]? = some d ∧ Rep K H v d
  | _, _, _, _, .nil, e => by simp at e
  | _, _, 0, _, .cons r _, e => by
    simp at e
    subst e
    exact ⟨_, rfl, r⟩
  | _, _, i + 1, _, .cons _ t, e => by
    obtain ⟨v, h1, h2⟩ := RepAll.getV (i := i) t (by simpa using e)
    exact ⟨v, by simpa using h1, h2⟩
theorem RepAll.append : ∀ {vs : List V} {ds : List D} {ws : List V} {es : List D}, RepAll K H vs ds → RepAll K H ws es → RepAll K H (vs ++ ws) (ds ++ es)
  | _, _, _, _, .nil, s => s
  | _, _, _, _, .cons r t, s => .cons r (RepAll.append t s)
theorem RepAll.take : ∀ {vs : List V} {ds : List D} (n : Nat), RepAll K H vs ds → RepAll K H (vs.take n) (ds.take n)
  | _, _, 0, _ => .nil
  | _, _, _ + 1, .nil => .nil
  | _, _, n + 1, .cons r t => .cons r (RepAll.take n t)
theorem RepAll.drop : ∀ {vs : List V} {ds : List D} (n : Nat), RepAll K H vs ds → RepAll K H (vs.drop n) (ds.drop n)
  | _, _, 0, r => r
  | _, _, _ + 1, .nil => .nil
  | _, _, n + 1, .cons _ t => RepAll.drop n t
theorem RepAll.reverse : ∀ {vs : List V} {ds : List D}, RepAll K H vs ds → RepAll K H vs.reverse ds.reverse
  | _, _, .nil => .nil
  | _, _, .cons r t => by
    rw [List.reverse_cons, List.reverse_cons]
    exact (RepAll.reverse t).append (.cons r .nil)
theorem RepAll.set : ∀ {vs : List V} {ds : List D} (i : Nat) {v : V} {d : D}, RepAll K H vs ds → Rep K H v d → RepAll K H (vs.set i v) (ds.set i d)
  | _, _, _, _, _, .nil, _ => .nil
  | _, _, 0, _, _, .cons _ t, q => .cons q t
  | _, _, i + 1, _, _, .cons r t, q => .cons r (RepAll.set i t q)
theorem RepAll.ints : ∀ {vs : List V} {ns : List Int}, RepAll K H vs (ns.map D.int) → vs = ns.map V.int
  | _, [], h => by cases h; rfl
  | _, n :: ns, h => by
    cases h with
    | cons r t =>
      cases r
      rw [RepAll.ints t]
      rfl
theorem RepAll.of_ints : ∀ (ns : List Int), RepAll K H (ns.map V.int) (ns.map D.int)
  | [] => .nil
  | n :: ns => .cons (.int n) (RepAll.of_ints ns)
theorem RepAll.bools : ∀ {vs : List V} {bs : List Bool}, RepAll K H vs (bs.map D.bl) → vs = bs.map V.bl
  | _, [], h => by cases h; rfl
  | _, n :: ns, h => by
    cases h with
    | cons r t =>
      cases r
      rw [RepAll.bools t]
      rfl
end

/-! ### a part of a heap -/
open Classical in
noncomputable def off (O : Addr → Prop) (H : Hp) : Hp := fun a => if O a then none else H a
theorem off_no {O : Addr → Prop} {H : Hp} {a : Addr} (h : ¬ O a) : off O H a = H a := by
  unfold off
  rw [if_neg h]
theorem off_some {O : Addr → Prop} {H : Hp} {a : Addr} {o : HO} (h : off O H a = some o) : ¬ O a ∧ H a = some o := by
  unfold off at h
  split at h
  · cases h
  · next g => exact ⟨g, h⟩
theorem off_le {O : Addr → Prop} {H : Hp} : Same (off O H) H := fun a o h => (off_some h).2
theorem off_sub {O O' : Addr → Prop} {H H' : Hp} (ho : ∀ a o, H a = some o → ¬ O a → ¬ O' a) (h : ∀ a o, H a = some o → ¬ O a → H' a = some o) : Same (off O H) (off O' H') := fun a o e => by
  obtain ⟨n, e'⟩ := off_some e
  rw [off_no (ho a o e' n)]
  exact h a o e' n

/-! ### slots -/
inductive Sl where
  | un | dat (d : D) | own (ds : List D) | pen
abbrev Env := List Sl

/-- the world of a body: what is written, the heap at its entry, what may not be leaned on, the pen, its cells -/
structure Wd where
  K : PySem.W.Frag
  B : Hp
  S : Addr → Prop
  p : Addr
  c : Addr
  cs : List Int

def owns (ρ : Env) (σ : L2.St) (a : Addr) : Prop := ∃ (i : Nat) (ds : List D), ρ[i]? = some (.own ds) ∧ σ[i]? = some (some (.ref a))
def Out (W : Wd) (ρ : Env) (σ : L2.St) (a : Addr) : Prop := W.S a ∨ owns ρ σ a

def PenAt (W : Wd) (n : Nat) (H : Hp) : Prop := ∃ t r : Int, H W.p = some (.lst [.ref W.c, .int t, .int r]) ∧ 0 ≤ t ∧ t ≤ n ∧ 0 ≤ r

structure Rp (W : Wd) (n : Nat) (ρ : Env) (σ : L2.St) (H : Hp) : Prop where
  wc : W.B W.c = some (.lst (W.cs.map V.int))
  wp : W.B W.p ≠ none
  sp : W.S W.p
  cp : W.c ≠ W.p
  sb : ∀ a, W.S a → H a ≠ none
  ex : ∀ a o, W.B a = some o → a ≠ W.p → H a = some o
  pen : PenAt W n H
  len : ρ.length = σ.length
  dat : ∀ (i : Nat) d, ρ[i]? = some (.dat d) → ∃ v, σ[i]? = some (some v) ∧ Rep W.K (off (Out W ρ σ) H) v d
  own : ∀ (i : Nat) ds, ρ[i]? = some (.own ds) → ∃ a xs, σ[i]? = some (some (.ref a)) ∧ W.B a = none ∧ ¬ W.S a ∧ H a = some (.lst xs) ∧ RepAll W.K (off (Out W ρ σ) H) xs ds
  inj : ∀ (i j : Nat) ds es a, ρ[i]? = some (.own ds) → ρ[j]? = some (.own es) → σ[i]? = some (some (.ref a)) → σ[j]? = some (some (.ref a)) → i = j
  pn : ∀ (i : Nat), ρ[i]? = some .pen → σ[i]? = some (some (.ref W.p))

/-- all but the pen stays -/
def Xt (p : Addr) (H H' : Hp) : Prop := ∀ a o, H a = some o → a ≠ p → H' a = some o
theorem Xt.refl {p : Addr} {H : Hp} : Xt p H H := fun _ _ h _ => h
theorem Xt.trans {p : Addr} {H H1 H2 : Hp} (a : Xt p H H1) (b : Xt p H1 H2) : Xt p H H2 := fun x o h n => b x o (a x o h n) n
theorem Xt.new {p q : Addr} {H : Hp} {o : HO} (h : H q = none) : Xt p H (upd H q o) := fun a u e _ => by
  rw [upd_ne (ne_of_none e h)]
  exact e
theorem Xt.none {p a : Addr} {H H' : Hp} (e : Xt p H H') (h : H' a = Option.none) (n : a ≠ p) : H a = Option.none := by
  cases q : H a with
  | none => rfl
  | some o =>
    rw [e a o q n] at h
    cases h

section
variable {W : Wd} {n n' : Nat} {ρ : Env} {σ : L2.St} {H H' : Hp}
theorem Rp.fresh (R : Rp W n ρ σ H) {a : Addr} (h : H a = none) : ¬ Out W ρ σ a := fun q => by
  rcases q with q | ⟨i, ds, h1, h2⟩
  · exact R.sb a q h
  · obtain ⟨b, xs, e1, _, _, e4, _⟩ := R.own i ds h1
    rw [h2] at e1
    cases e1
    rw [e4] at h
    cases h
theorem Rp.pin (R : Rp W n ρ σ H) : ∃ o, H W.p = some o := by
  obtain ⟨t, r, e, _⟩ := R.pen
  exact ⟨_, e⟩
theorem Rp.ne_p (R : Rp W n ρ σ H) {a : Addr} (h : H a = none) : a ≠ W.p := fun e => by
  obtain ⟨o, q⟩ := R.pin
  rw [e, q] at h
  cases h
theorem Rp.out_p (R : Rp W n ρ σ H) : Out W ρ σ W.p := .inl R.sp
theorem Rp.offs (R : Rp W n ρ σ H) (e : Xt W.p H H') : Same (off (Out W ρ σ) H) (off (Out W ρ σ) H') :=
  off_sub (fun _ _ _ h => h) fun a o h hn => e a o h fun z => hn (z ▸ R.out_p)
theorem Rp.xt (R : Rp W n ρ σ H) (e : Xt W.p H H') (p : PenAt W n' H') : Rp W n' ρ σ H' := by
  have sm := R.offs e
  refine ⟨R.wc, R.wp, R.sp, R.cp, fun a ha => ?_, fun a o h1 h2 => e a o (R.ex a o h1 h2) h2, p, R.len, fun i d h => ?_, fun i ds h => ?_, R.inj, R.pn⟩
  · by_cases z : a = W.p
    · obtain ⟨t, r, q, _⟩ := p
      rw [z, q]
      intro w
      cases w
    · cases q : H a with
      | none => exact absurd q (R.sb a ha)
      | some o =>
        rw [e a o q z]
        intro w
        cases w
  · obtain ⟨v, h1, h2⟩ := R.dat i d h
    exact ⟨v, h1, h2.mono sm⟩
  · obtain ⟨a, xs, h1, h2, h3, h4, h5⟩ := R.own i ds h
    refine ⟨a, xs, h1, h2, h3, e a _ h4 fun z => ?_, h5.mono sm⟩
    rw [z] at h3
    exact h3 R.sp
theorem PenAt.xt_new {q : Addr} {o : HO} (p : PenAt W n H) (h : H q = none) : PenAt W n (upd H q o) := by
  obtain ⟨t, r, e, z⟩ := p
  exact ⟨t, r, by rw [upd_ne (ne_of_none e h)]; exact e, z⟩
theorem PenAt.le (p : PenAt W n H) (h : n ≤ n') : PenAt W n' H := by
  obtain ⟨t, r, e, h1, h2, h3⟩ := p
  exact ⟨t, r, e, h1, by omega, h3⟩
/-- a new object -/
theorem Rp.new (R : Rp W n ρ σ H) {q : Addr} {o : HO} (h : H q = none) : Rp W n ρ σ (upd H q o) := R.xt (Xt.new h) (R.pen.xt_new h)
end

/-! ### values -/
inductive AV where
  | st (d : D) | ow (ds : List D) | fr (ds : List D) | pn
def AV.d : AV → D
  | .st d => d
  | .ow ds => .lst ds
  | .fr ds => .lst ds
  | .pn => .obj 0 [] []
def RepAV (W : Wd) (ρ : Env) (σ : L2.St) (H0 H : Hp) (v : V) : AV → Prop
  | .st d => Rep W.K (off (Out W ρ σ) H) v d
  | .ow ds => ∃ a xs, v = .ref a ∧ (W.B a = none ∧ ¬ W.S a ∧ Out W ρ σ a) ∧ H a = some (.lst xs) ∧ RepAll W.K (off (Out W ρ σ) H) xs ds
  | .fr ds => ∃ a xs, v = .ref a ∧ H0 a = none ∧ ¬ Out W ρ σ a ∧ H a = some (.lst xs) ∧ RepAll W.K (off (fun b => Out W ρ σ b ∨ b = a) H) xs ds
  | .pn => v = .ref W.p
section
variable {W : Wd} {n n' : Nat} {ρ : Env} {σ : L2.St} {H H0 H1 H' : Hp} {v : V} {av : AV}
theorem off_or {O P : Addr → Prop} {H : Hp} : Same (off (fun b => O b ∨ P b) H) (off O H) := off_sub (fun _ _ _ h q => h (.inl q)) fun _ _ h _ => h
theorem RepAV.mono (h : RepAV W ρ σ H0 H v av) (R : Rp W n ρ σ H) (e : Xt W.p H H') : RepAV W ρ σ H0 H' v av := by
  have sm := R.offs e
  cases av with
  | st d => exact Rep.mono sm h
  | ow ds =>
    obtain ⟨a, xs, h1, h2, h3, h4⟩ := h
    exact ⟨a, xs, h1, h2, e a _ h3 (fun z => h2.2.1 (z ▸ R.sp)), h4.mono sm⟩
  | fr ds =>
    obtain ⟨a, xs, h1, h2, h3, h4, h5⟩ := h
    refine ⟨a, xs, h1, h2, h3, e a _ h4 fun z => h3 (z ▸ R.out_p), h5.mono (off_sub (fun _ _ _ q => q) fun b o h hn => e b o h fun z => hn (.inl (z ▸ R.out_p)))⟩
  | pn => exact h
theorem RepAV.early (h : RepAV W ρ σ H1 H v av) (R : Rp W n ρ σ H0) (e : Xt W.p H0 H1) : RepAV W ρ σ H0 H v av := by
  cases av with
  | st d => exact h
  | ow ds => exact h
  | fr ds =>
    obtain ⟨a, xs, h1, h2, h3, h4, h5⟩ := h
    exact ⟨a, xs, h1, e.none h2 fun z => h3 (z ▸ R.out_p), h3, h4, h5⟩
  | pn => exact h
/-- what it is now -/
theorem RepAV.now (h : RepAV W ρ σ H0 H v av) : av ≠ .pn → Rep W.K H v av.d := fun hn => by
  cases av with
  | st d => exact Rep.mono off_le h
  | ow ds =>
    obtain ⟨a, xs, rfl, h2, h3, h4⟩ := h
    exact .lst h3 (h4.mono off_le)
  | fr ds =>
    obtain ⟨a, xs, rfl, h2, h3, h4, h5⟩ := h
    exact .lst h4 (h5.mono off_le)
  | pn => exact absurd rfl hn
/-- a stable value -/
theorem RepAV.stab {ds : List D} (h : RepAV W ρ σ H0 H v (.fr ds)) : RepAV W ρ σ H0 H v (.st (.lst ds)) := by
  obtain ⟨a, xs, rfl, h2, h3, h4, h5⟩ := h
  exact .lst (by rw [off_no h3]; exact h4) (h5.mono off_or)
/-- its items, if it is a list -/
theorem RepAV.items {ds : List D} (h : RepAV W ρ σ H0 H v av) (e : av.d = .lst ds) : ∃ a xs, v = .ref a ∧ H a = some (.lst xs) ∧ RepAll W.K (off (Out W ρ σ) H) xs ds := by
  cases av with
  | st d =>
    cases e
    cases h with
    | lst h r => exact ⟨_, _, rfl, off_le _ _ h, r⟩
  | ow ds =>
    cases e
    obtain ⟨a, xs, rfl, h2, h3, h4⟩ := h
    exact ⟨a, xs, rfl, h3, h4⟩
  | fr ds =>
    cases e
    obtain ⟨a, xs, rfl, h2, h3, h4, h5⟩ := h
    exact ⟨a, xs, rfl, h4, h5.mono off_or⟩
  | pn => cases e
theorem RepAV.itemsT {ds : List D} (h : RepAV W ρ σ H0 H v av) (e : av.d = .tup ds) : ∃ a xs, v = .ref a ∧ SqT W.K H a xs ∧ RepAll W.K (off (Out W ρ σ) H) xs ds := by
  cases av with
  | st d =>
    cases e
    cases h with
    | tup h r => exact ⟨_, _, rfl, sqt_mono off_le h, r⟩
  | ow ds => cases e
  | fr ds => cases e
  | pn => cases e
theorem RepAV.int_of {i : Int} (h : RepAV W ρ σ H0 H v av) (e : av.d = .int i) : v = .int i := by
  cases av with
  | st d =>
    cases e
    cases h
    rfl
  | ow ds => cases e
  | fr ds => cases e
  | pn => cases e
theorem RepAV.bl_of {b : Bool} (h : RepAV W ρ σ H0 H v av) (e : av.d = .bl b) : v = .bl b := by
  cases av with
  | st d =>
    cases e
    cases h
    rfl
  | ow ds => cases e
  | fr ds => cases e
  | pn => cases e
theorem RepAV.str_of {x : Str} (h : RepAV W ρ σ H0 H v av) (e : av.d = .str x) : v = .str x := by
  cases av with
  | st d =>
    cases e
    cases h
    rfl
  | ow ds => cases e
  | fr ds => cases e
  | pn => cases e
/-- a fresh list of stable items -/
theorem RepAV.mk_fr {ds : List D} {q : Addr} {xs : List V} (R : Rp W n ρ σ H) (h : H q = none) (r : RepAll W.K (off (Out W ρ σ) H) xs ds) : RepAV W ρ σ H (upd H q (.lst xs)) (.ref q) (.fr ds) := by
  refine ⟨q, xs, rfl, h, R.fresh h, upd_same, r.mono (off_sub (fun a o e hn => ?_) fun a o e hn => ?_)⟩
  · rintro (z | z)
    · exact hn z
    · rw [z, h] at e
      cases e
  · rw [upd_ne (ne_of_none e h)]
    exact e
theorem RepAV.mk_tup {ds : List D} {q : Addr} {xs : List V} (R : Rp W n ρ σ H) (h : H q = none) (r : RepAll W.K (off (Out W ρ σ) H) xs ds) : RepAV W ρ σ H0 (upd H q (.tup xs)) (.ref q) (.st (.tup ds)) := by
  have sm : Same (off (Out W ρ σ) H) (off (Out W ρ σ) (upd H q (.tup xs))) := R.offs (Xt.new h)
  exact .tup (.inl (.inl (by rw [off_no (R.fresh h)]; exact upd_same))) (r.mono sm)
end
end Ab
set_option Elab.async false
set_option linter.all false
set_option maxRecDepth 100000
set_option maxHeartbeats 4000000
/-! AbB: readings over data: expressions, tests, arguments, statements, targets, what is walked. -/
namespace Ab
open PySem PySem.Spec PyProof.Rows L2

abbrev AE := Env → Nat → (AV → Nat → Prop) → Prop
abbrev AT := Env → Nat → (Bool → Nat → Prop) → Prop
abbrev AA := Env → Nat → (List AV → Nat → Prop) → Prop
abbrev AG := D → Env → (Env → Prop) → Prop
abbrev AI := Env → Nat → (List D → Nat → Prop) → Prop
structure AEnds where
  nx : Env → Nat → Prop
  rt : AV → Nat → Prop
  bk : Env → Nat → Prop := fun _ _ => False
  ct : Env → Nat → Prop := fun _ _ => False
abbrev AS := AEnds → Env → Nat → Prop
abbrev AR2 := AV → AV → Nat → (AV → Nat → Prop) → Prop
abbrev ARn := List AV → Nat → (AV → Nat → Prop) → Prop

/-! ### from data to the hand layer -/
/-- what is handed on behind an expression -/
def KE (W : Wd) (ρ : Env) (σ : L2.St) (H : Hp) (AQ : AV → Nat → Prop) (Q : VK) : Prop :=
  ∀ v H' av n', Xt W.p H H' → Rp W n' ρ σ H' → RepAV W ρ σ H H' v av → AQ av n' → Q v H'
def upE (K : PySem.W.Frag) (ae : AE) : TE := fun σ H Q => ∃ (W : Wd) (n : Nat) (ρ : Env) (AQ : AV → Nat → Prop), W.K = K ∧ Rp W n ρ σ H ∧ ae ρ n AQ ∧ KE W ρ σ H AQ Q
def upT (K : PySem.W.Frag) (at' : AT) : TT := fun σ H Q => ∃ (W : Wd) (n : Nat) (ρ : Env) (AQ : Bool → Nat → Prop), W.K = K ∧ Rp W n ρ σ H ∧ at' ρ n AQ ∧ ∀ b H' n', Xt W.p H H' → Rp W n' ρ σ H' → AQ b n' → Q b H'
inductive RepAVs (W : Wd) (ρ : Env) (σ : L2.St) (H0 H : Hp) : List V → List AV → Prop
  | nil : RepAVs W ρ σ H0 H [] []
  | cons {v : V} {vs : List V} {a : AV} {as : List AV} : RepAV W ρ σ H0 H v a → RepAVs W ρ σ H0 H vs as → RepAVs W ρ σ H0 H (v :: vs) (a :: as)
def upA (K : PySem.W.Frag) (aa : AA) : TA := fun σ H Q => ∃ (W : Wd) (n : Nat) (ρ : Env) (AQ : List AV → Nat → Prop), W.K = K ∧ Rp W n ρ σ H ∧ aa ρ n AQ ∧
  ∀ vs H' avs n', Xt W.p H H' → Rp W n' ρ σ H' → RepAVs W ρ σ H H' vs avs → AQ avs n' → Q vs H'
/-- what a def hands back -/
def Ret (W : Wd) (n : Nat) (H : Hp) (v : V) (av : AV) : Prop :=
  (∀ a o, W.B a = some o → a ≠ W.p → H a = some o) ∧ PenAt W n H ∧
    match av with
    | .st d => Rep W.K (off W.S H) v d
    | .fr ds => ∃ a xs, v = .ref a ∧ W.B a = none ∧ ¬ W.S a ∧ H a = some (.lst xs) ∧ RepAll W.K (off (fun b => W.S b ∨ b = a) H) xs ds
    | .ow _ => False
    | .pn => False
def AV.ret : AV → AV
  | .ow ds => .fr ds
  | a => a
structure Lift (W : Wd) (A : AEnds) (D : Ends) : Prop where
  nx : ∀ ρ n σ H, Rp W n ρ σ H → A.nx ρ n → D.nx σ H
  bk : ∀ ρ n σ H, Rp W n ρ σ H → A.bk ρ n → D.bk σ H
  ct : ∀ ρ n σ H, Rp W n ρ σ H → A.ct ρ n → D.ct σ H
  rt : ∀ v H av n, Ret W n H v av → A.rt av n → D.rt v H
def upS (K : PySem.W.Frag) (as : AS) : TS := fun D σ H => ∃ (W : Wd) (n : Nat) (ρ : Env) (A : AEnds), W.K = K ∧ Rp W n ρ σ H ∧ as A ρ n ∧ Lift W A D
def upG (K : PySem.W.Frag) (ag : AG) : TG := fun v σ H Q => ∃ (W : Wd) (n : Nat) (ρ : Env) (d : D) (AQ : Env → Prop), W.K = K ∧ Rp W n ρ σ H ∧ Rep W.K (off (Out W ρ σ) H) v d ∧ ag d ρ AQ ∧
  ∀ ρ' σ', Rp W n ρ' σ' H → AQ ρ' → Q σ' H

section
variable {X : Cx} {e : Expr} {es : List Expr} {st : Stmt} {sts : List Stmt}
theorem _root_.L2.PE.imp {t t' : TE} (h : PE X e t) (k : ∀ σ H Q, t' σ H Q → t σ H Q) : PE X e t' := ⟨fun pins s σ H Q I q => h.run pins s σ H Q I (k σ H Q q)⟩
theorem _root_.L2.PT.imp {t t' : TT} (h : PT X e t) (k : ∀ σ H Q, t' σ H Q → t σ H Q) : PT X e t' := ⟨fun pins s σ H Q I q => h.run pins s σ H Q I (k σ H Q q)⟩
theorem _root_.L2.PW.imp {t t' : TT} (h : PW X e t) (k : ∀ σ H Q, t' σ H Q → t σ H Q) : PW X e t' := ⟨fun wh pins s σ H Q I q => h.run wh pins s σ H Q I (k σ H Q q)⟩
theorem _root_.L2.PA.imp {t t' : TA} (h : PA X es t) (k : ∀ σ H Q, t' σ H Q → t σ H Q) : PA X es t' := ⟨fun pos pins s σ H Q I q => h.run pos pins s σ H Q I (k σ H Q q)⟩
theorem _root_.L2.PS.imp {t t' : TS} (h : PS X st t) (k : ∀ D σ H, t' D σ H → t D σ H) : PS X st t' := ⟨fun pins s σ H D I q => h.run pins s σ H D I (k D σ H q)⟩
theorem _root_.L2.PSs.imp {t t' : TS} (h : PSs X sts t) (k : ∀ D σ H, t' D σ H → t D σ H) : PSs X sts t' := ⟨fun pins s σ H D I q => h.run pins s σ H D I (k D σ H q)⟩
theorem _root_.L2.PG.imp {t t' : TG} (h : PG X e t) (k : ∀ v σ H Q, t' v σ H Q → t v σ H Q) : PG X e t' := ⟨fun pins s σ H v u Q I r q => h.run pins s σ H v u Q I r (k v σ H Q q)⟩
end
abbrev AEx (X : Cx) (e : Expr) (ae : AE) : Prop := PE X e (upE X.K ae)
abbrev ATx (X : Cx) (e : Expr) (at' : AT) : Prop := PT X e (upT X.K at')
abbrev AWx (X : Cx) (e : Expr) (at' : AT) : Prop := PW X e (upT X.K at')
abbrev AAx (X : Cx) (es : List Expr) (aa : AA) : Prop := PA X es (upA X.K aa)
abbrev ASx (X : Cx) (st : Stmt) (as : AS) : Prop := PS X st (upS X.K as)
abbrev ASsx (X : Cx) (sts : List Stmt) (as : AS) : Prop := PSs X sts (upS X.K as)
abbrev AGx (X : Cx) (e : Expr) (ag : AG) : Prop := PG X e (upG X.K ag)

/-! ### names, constants -/
def aVar (i : Nat) : AE := fun ρ n Q => match ρ[i]? with
  | some (.dat d) => Q (.st d) n
  | some (.own ds) => Q (.ow ds) n
  | some .pen => Q .pn n
  | _ => False
def aC (d : D) : AE := fun _ n Q => Q (.st d) n
section
variable {W : Wd} {n n' : Nat} {ρ : Env} {σ : L2.St} {H H0 H1 H' : Hp} {v : V} {av : AV} {AQ : AV → Nat → Prop} {Q : VK}
theorem KE.at (k : KE W ρ σ H AQ Q) (R : Rp W n ρ σ H) (r : RepAV W ρ σ H H v av) (q : AQ av n) : Q v H := k v H av n Xt.refl R r q
theorem KE.int (k : KE W ρ σ H AQ Q) (R : Rp W n ρ σ H) {i : Int} (q : AQ (.st (.int i)) n) : Q (.int i) H := k.at R (av := .st (.int i)) (Rep.int i) q
theorem KE.bl (k : KE W ρ σ H AQ Q) (R : Rp W n ρ σ H) {i : Bool} (q : AQ (.st (.bl i)) n) : Q (.bl i) H := k.at R (av := .st (.bl i)) (Rep.bl i) q
theorem KE.str (k : KE W ρ σ H AQ Q) (R : Rp W n ρ σ H) {i : Str} (q : AQ (.st (.str i)) n) : Q (.str i) H := k.at R (av := .st (.str i)) (Rep.str i) q
theorem KE.non (k : KE W ρ σ H AQ Q) (R : Rp W n ρ σ H) (q : AQ (.st .non) n) : Q .non H := k.at R (av := .st .non) Rep.non q
/-- further on, the ends told at an earlier heap -/
theorem KE.late (k : KE W ρ σ H AQ Q) (R : Rp W n ρ σ H) (e : Xt W.p H H') : KE W ρ σ H' AQ Q := fun v H2 av n2 e2 R2 r q => k v H2 av n2 (e.trans e2) R2 (r.early R e) q
theorem KE.fr (k : KE W ρ σ H AQ Q) (R : Rp W n ρ σ H) {ds : List D} {q : Addr} {xs : List V} (h : H q = none) (r : RepAll W.K (off (Out W ρ σ) H) xs ds) (z : AQ (.fr ds) n) : Q (.ref q) (upd H q (.lst xs)) :=
  k _ _ (.fr ds) n (Xt.new h) (R.new h) (RepAV.mk_fr R h r) z
theorem KE.tup (k : KE W ρ σ H AQ Q) (R : Rp W n ρ σ H) {ds : List D} {q : Addr} {xs : List V} (h : H q = none) (r : RepAll W.K (off (Out W ρ σ) H) xs ds) (z : AQ (.st (.tup ds)) n) : Q (.ref q) (upd H q (.tup xs)) :=
  k _ _ (.st (.tup ds)) n (Xt.new h) (R.new h) (RepAV.mk_tup R h r) z
end
section
variable {X : Cx} {pos p : Pos}
theorem ae_var (i : Nat) {x : Str} (hN : X.N[i]? = some x := by rfl) (hv : Vis X.env.scope x := by first | exact Or.inl rfl | exact Or.inr (Or.inl rfl) | exact Or.inr (Or.inr rfl)) (hd : (x == ("__debug__" : Str)) = false := by decide)
    (hcd : (x == ("__classdict__" : Str)) = false := by decide) : AEx X (.Name x pos) (aVar i) := by
  refine (pe_var hN hv hd hcd).imp fun σ H Q ⟨W, n, ρ, AQ, hK, R, h, k⟩ => ?_
  unfold aVar at h
  split at h
  · next d hd =>
    obtain ⟨v, h1, h2⟩ := R.dat i d hd
    exact ⟨v, h1, k.at R (av := .st d) h2 h⟩
  · next ds hd =>
    obtain ⟨a, xs, h1, h2, h3, h4, h5⟩ := R.own i ds hd
    exact ⟨.ref a, h1, k.at R (av := .ow ds) ⟨a, xs, rfl, ⟨h2, h3, .inr ⟨i, ds, hd, h1⟩⟩, h4, h5⟩ h⟩
  · next hd => exact ⟨.ref W.p, R.pn i hd, k.at R (av := .pn) rfl h⟩
  · exact h.elim
theorem ae_int {i j} : AEx X (.Constant (.int i) j pos) (aC (.int i)) := pe_int.imp fun σ H Q ⟨W, n, ρ, AQ, hK, R, h, k⟩ => k.int R h
theorem ae_bl {b j} : AEx X (.Constant (.bool b) j pos) (aC (.bl b)) := pe_bl.imp fun σ H Q ⟨W, n, ρ, AQ, hK, R, h, k⟩ => k.bl R h
theorem ae_non {j} : AEx X (.Constant .none j pos) (aC .non) := pe_non.imp fun σ H Q ⟨W, n, ρ, AQ, hK, R, h, k⟩ => k.non R h
theorem ae_str {x j} : AEx X (.Constant (.str x) j pos) (aC (.str x)) := pe_str.imp fun σ H Q ⟨W, n, ρ, AQ, hK, R, h, k⟩ => k.str R h
end

/-! ### two operands -/
def SimR2 (K : PySem.W.Frag) (r : R2) (ar : AR2) : Prop := ∀ (W : Wd) (n : Nat) (ρ : Env) (σ : L2.St) (H0 H : Hp) (x y : V) (ax ay : AV) (AQ : AV → Nat → Prop) (Q : VK), W.K = K → Rp W n ρ σ H →
  RepAV W ρ σ H0 H x ax → RepAV W ρ σ H0 H y ay → ar ax ay n AQ → KE W ρ σ H AQ Q → r x y H Q
def aOp (ar : AR2) (aa ab : AE) : AE := fun ρ n Q => aa ρ n fun x n1 => ab ρ n1 fun y n2 => ar x y n2 Q
theorem sim_op {K : PySem.W.Frag} {r : R2} {ar : AR2} {aa ab : AE} (hr : SimR2 K r ar) : ∀ σ H Q, upE K (aOp ar aa ab) σ H Q → tOp r (upE K aa) (upE K ab) σ H Q := by
  rintro σ H Q ⟨W, n, ρ, AQ, hK, R, h, k⟩
  refine ⟨W, n, ρ, _, hK, R, h, fun x H1 ax n1 e1 R1 rx hx => ⟨W, n1, ρ, _, hK, R1, hx, fun y H2 ay n2 e2 R2 ry hy => ?_⟩⟩
  exact hr W n2 ρ σ H H2 x y ax ay AQ Q hK R2 (rx.mono R1 e2) (ry.early R e1) hy (k.late R (e1.trans e2))
section
variable {X : Cx} {a b c : Expr} {aa ab ac : AE} {pos : Pos} {r r' : R2} {ar ar' : AR2}
theorem ae_op {op : Operator} (ho : OpR X (binaryOp op) r) (hr : SimR2 X.K r ar) (ha : AEx X a aa) (hb : AEx X b ab) : AEx X (.BinOp a op b pos) (aOp ar aa ab) := (pe_op ho ha hb).imp (sim_op hr)
theorem ae_cmp {op : CmpOp} (ho : OpR X (compareOp op) r) (hr : SimR2 X.K r ar) (ha : AEx X a aa) (hb : AEx X b ab) (hm : behindInMarks op b = false) : AEx X (.Compare a [op] [b] pos) (aOp ar aa ab) := (pe_cmpR ho ha hb hm).imp (sim_op hr)
def aTest (ae : AE) : AT := fun ρ n Q => ae ρ n fun x n1 => match x.d with
  | .bl b => Q b n1
  | _ => False
theorem at_cmp {op : CmpOp} (ho : OpR X (compareOp op) r) (hr : SimR2 X.K r ar) (ha : AEx X a aa) (hb : AEx X b ab) (hm : behindInMarks op b = false) : ATx X (.Compare a [op] [b] pos) (aTest (aOp ar aa ab)) := by
  refine (pt_cmpR ho ha hb hm).imp fun σ H Q ⟨W, n, ρ, AQ, hK, R, h, k⟩ => ?_
  refine sim_op hr σ H _ ⟨W, n, ρ, _, hK, R, h, fun v H' av n' e' R' r' q => ?_⟩
  try dsimp only at q
  split at q
  · next b hb => exact ⟨b, r'.bl_of hb, k b H' n' e' R' q⟩
  · exact q.elim
theorem at_val (ha : AEx X a aa) (he : ∀ whole, isTrue a X.env whole = (do let v ← whole; standAt a.pos; holding [v] (truthy v)) := by intro _; rfl) : ATx X a (aTest aa) := by
  refine (pt_val ha he).imp fun σ H Q ⟨W, n, ρ, AQ, hK, R, h, k⟩ => ?_
  refine ⟨W, n, ρ, _, hK, R, h, fun v H' av n' e' R' r' q => ?_⟩
  try dsimp only at q
  split at q
  · next b hb => exact ⟨b, r'.bl_of hb, k b H' n' e' R' q⟩
  · exact q.elim
/-- a op b op c -/
def aChain (ar ar' : AR2) (aa ab ac : AE) : AE := fun ρ n Q => aa ρ n fun x n1 => ab ρ n1 fun y n2 => ar x y n2 fun z n3 => match z.d with
  | .bl true => ac ρ n3 fun w n4 => ar' y w n4 Q
  | .bl false => Q (.st (.bl false)) n3
  | _ => False
theorem sim_chain {K : PySem.W.Frag} (hr : SimR2 K r ar) (hr' : SimR2 K r' ar') : ∀ σ H Q, upE K (aChain ar ar' aa ab ac) σ H Q → tChain r r' (upE K aa) (upE K ab) (upE K ac) σ H Q := by
  rintro σ H Q ⟨W, n, ρ, AQ, hK, R, h, k⟩
  refine ⟨W, n, ρ, _, hK, R, h, fun x H1 ax n1 e1 R1 rx hx => ⟨W, n1, ρ, _, hK, R1, hx, fun y H2 ay n2 e2 R2 ry hy => ?_⟩⟩
  refine hr W n2 ρ σ H H2 x y ax ay _ _ hK R2 (rx.mono R1 e2) (ry.early R e1) hy fun z H3 az n3 e3 R3 rz hz => ?_
  try dsimp only at hz
  split at hz
  · next hb =>
    refine ⟨true, rz.bl_of hb, ?_⟩
    rw [if_pos rfl]
    refine ⟨W, n3, ρ, _, hK, R3, hz, fun w H4 aw n4 e4 R4 rw' hw => ?_⟩
    exact hr' W n4 ρ σ H H4 y w ay aw AQ Q hK R4 ((ry.early R e1).mono R2 (e3.trans e4)) (rw'.early R (e1.trans (e2.trans e3))) hw (k.late R (e1.trans (e2.trans (e3.trans e4))))
  · next hb =>
    refine ⟨false, rz.bl_of hb, ?_⟩
    rw [if_neg Bool.false_ne_true]
    exact (k.late R (e1.trans (e2.trans e3))).bl R3 hz
  · exact hz.elim
end

/-! ### operators on ints -/
def arII (C : Int → Int → Prop) (g : Int → Int → Int) : AR2 := fun x y n Q => match x.d, y.d with
  | .int i, .int j => C i j ∧ Q (.st (.int (g i j))) n
  | _, _ => False
def arI0 (g : Int → Int → Int) : AR2 := fun x y n Q => match x.d, y.d with
  | .int i, .int j => Q (.st (.int (g i j))) n
  | _, _ => False
def arIB (g : Int → Int → Bool) : AR2 := fun x y n Q => match x.d, y.d with
  | .int i, .int j => Q (.st (.bl (g i j))) n
  | _, _ => False
section
variable {K : PySem.W.Frag}
theorem sr_II {C : Int → Int → Prop} {g : Int → Int → Int} : SimR2 K (rI C fun i j => .int (g i j)) (arII C g) := by
  intro W n ρ σ H0 H x y ax ay AQ Q hK R rx ry h k
  unfold arII at h
  split at h
  · next i j h1 h2 => exact ⟨i, j, rx.int_of h1, ry.int_of h2, h.1, k.int R h.2⟩
  · exact h.elim
theorem sr_I0 {g : Int → Int → Int} : SimR2 K (rI0 fun i j => .int (g i j)) (arI0 g) := by
  intro W n ρ σ H0 H x y ax ay AQ Q hK R rx ry h k
  unfold arI0 at h
  split at h
  · next i j h1 h2 => exact ⟨i, j, rx.int_of h1, ry.int_of h2, k.int R h⟩
  · exact h.elim
theorem sr_IB {g : Int → Int → Bool} : SimR2 K (rI0 fun i j => .bl (g i j)) (arIB g) := by
  intro W n ρ σ H0 H x y ax ay AQ Q hK R rx ry h k
  unfold arIB at h
  split at h
  · next i j h1 h2 => exact ⟨i, j, rx.int_of h1, ry.int_of h2, k.bl R h⟩
  · exact h.elim
/-- == of scalars -/
def scD : D → Option V
  | .non => some .non
  | .bl b => some (.bl b)
  | .int i => some (.int i)
  | .str x => some (.str x)
  | _ => none
def arEq (neg : Bool) : AR2 := fun x y n Q => match scD x.d, scD y.d with
  | some u, some v => scal u v = true ∧ Q (.st (.bl (if neg then !decide (u = v) else decide (u = v)))) n
  | _, _ => False
theorem sc_of {W : Wd} {ρ : Env} {σ : L2.St} {H0 H : Hp} {x u : V} {ax : AV} (r : RepAV W ρ σ H0 H x ax) (e : scD ax.d = some u) : x = u := by
  cases ax with
  | st d =>
    cases d with
    | non => cases r; cases e; rfl
    | bl b => cases r; cases e; rfl
    | int b => cases r; cases e; rfl
    | str b => cases r; cases e; rfl
    | _ => cases e
  | ow ds => cases e
  | fr ds => cases e
  | pn => cases e
theorem sr_Eq : SimR2 K rEq (arEq false) := by
  intro W n ρ σ H0 H x y ax ay AQ Q hK R rx ry h k
  unfold arEq at h
  split at h
  · next u v h1 h2 =>
    obtain rfl := sc_of rx h1
    obtain rfl := sc_of ry h2
    exact ⟨h.1, k.bl R h.2⟩
  · exact h.elim
theorem sr_Ne : SimR2 K rNe (arEq true) := by
  intro W n ρ σ H0 H x y ax ay AQ Q hK R rx ry h k
  unfold arEq at h
  split at h
  · next u v h1 h2 =>
    obtain rfl := sc_of rx h1
    obtain rfl := sc_of ry h2
    exact ⟨h.1, k.bl R h.2⟩
  · exact h.elim
end

/-! ### == of data -/
mutual
def D.py : D → PyData
  | .non => .none
  | .bl b => .bool b
  | .int i => .int i
  | .str x => .str x
  | .lst ds => .list (pyAll ds)
  | .tup ds => .tuple (pyAll ds)
  | .obj _ _ _ => .none
  | .dic _ _ => .none
def pyAll : List D → List PyData
  | [] => []
  | d :: ds => d.py :: pyAll ds
end
mutual
def D.plain : D → Bool
  | .lst ds => plainAll ds
  | .tup ds => plainAll ds
  | .obj _ _ _ => false
  | .dic _ _ => false
  | _ => true
def plainAll : List D → Bool
  | [] => true
  | d :: ds => d.plain && plainAll ds
end
mutual
theorem Rep.dp {K : PySem.W.Frag} {H : Hp} : ∀ {v : V} {d : D}, d.plain = true → Rep K H v d → Dp K H v d.py
  | _, _, _, .non => .non
  | _, _, _, .bl b => .bl b
  | _, _, _, .int i => .int i
  | _, _, _, .str x => .str x
  | _, .lst ds, p, .lst h r => .lst (.inl (.inl h)) (RepAll.dp (by simpa [D.plain] using p) r)
  | _, .tup ds, p, .tup h r => .tup h (RepAll.dp (by simpa [D.plain] using p) r)
  | _, _, p, .obj _ _ _ => by simp [D.plain] at p
  | _, _, p, .dic _ _ _ => by simp [D.plain] at p
theorem RepAll.dp {K : PySem.W.Frag} {H : Hp} : ∀ {vs : List V} {ds : List D}, plainAll ds = true → RepAll K H vs ds → DpAll K H vs (pyAll ds)
  | _, _, _, .nil => .nil
  | _, d :: ds, p, .cons r t => by
    simp [plainAll] at p
    exact .cons (Rep.dp p.1 r) (RepAll.dp p.2 t)
end
/-- both sides plain and of a shape that == reads -/
def arEqD (neg : Bool) : AR2 := fun x y n Q => x.d.plain = true ∧ y.d.plain = true ∧ SeqAt.shaped x.d.py = true ∧ SeqAt.shaped y.d.py = true ∧ Q (.st (.bl (if neg then !PyData.eqv x.d.py y.d.py else PyData.eqv x.d.py y.d.py))) n
section
variable {K : PySem.W.Frag}
theorem ne_pn {ax : AV} (h : ax.d.plain = true) : ax ≠ .pn := fun e => by
  subst e
  simp [AV.d, D.plain] at h
theorem sr_EqD : SimR2 K (rEqD K) (arEqD false) := by
  intro W n ρ σ H0 H x y ax ay AQ Q hK R rx ry ⟨p1, p2, s1, s2, q⟩ k
  subst hK
  exact ⟨_, _, (rx.now (ne_pn p1)).dp p1, (ry.now (ne_pn p2)).dp p2, s1, s2, k.bl R q⟩
theorem sr_NeD : SimR2 K (rNeD K) (arEqD true) := by
  intro W n ρ σ H0 H x y ax ay AQ Q hK R rx ry ⟨p1, p2, s1, s2, q⟩ k
  subst hK
  exact ⟨_, _, (rx.now (ne_pn p1)).dp p1, (ry.now (ne_pn p2)).dp p2, s1, s2, k.bl R q⟩
/-- x in xs, a list of data -/
def arInD (neg : Bool) : AR2 := fun x y n Q => match y.d with
  | .lst ds => x.d.plain = true ∧ plainAll ds = true ∧ SeqAt.shaped x.d.py = true ∧ SeqAt.shaped (.list (pyAll ds)) = true ∧ Q (.st (.bl (if neg then !(pyAll ds).any (fun z => PyData.eqv z x.d.py) else (pyAll ds).any (fun z => PyData.eqv z x.d.py)))) n
  | _ => False
end

/-! ### arguments, displays -/
def aNil : AA := fun _ n Q => Q [] n
def aCons (ae : AE) (ar : AA) : AA := fun ρ n Q => ae ρ n fun x n1 => ar ρ n1 fun xs n2 => Q (x :: xs) n2
section
variable {W : Wd} {n : Nat} {ρ : Env} {σ : L2.St} {H H0 H1 H' : Hp} {vs : List V} {avs : List AV}
theorem RepAVs.mono (h : RepAVs W ρ σ H0 H vs avs) (R : Rp W n ρ σ H) (e : Xt W.p H H') : RepAVs W ρ σ H0 H' vs avs := by
  induction h with
  | nil => exact .nil
  | cons r _ ih => exact .cons (r.mono R e) ih
theorem RepAVs.early (h : RepAVs W ρ σ H1 H vs avs) (R : Rp W n ρ σ H0) (e : Xt W.p H0 H1) : RepAVs W ρ σ H0 H vs avs := by
  induction h with
  | nil => exact .nil
  | cons r _ ih => exact .cons (r.early R e) ih
/-- the data of values that may be kept: no own list, no pen -/
def stAll : List AV → Option (List D)
  | [] => some []
  | .st d :: r => (stAll r).map (d :: ·)
  | .fr ds :: r => (stAll r).map (.lst ds :: ·)
  | _ => none
theorem RepAVs.stab (h : RepAVs W ρ σ H0 H vs avs) : ∀ {ds : List D}, stAll avs = some ds → RepAll W.K (off (Out W ρ σ) H) vs ds := by
  induction h with
  | nil =>
    intro ds e
    cases e
    exact .nil
  | @cons v vs a as r _ ih =>
    intro ds e
    cases a with
    | st d =>
      cases q : stAll as with
      | none => simp [stAll, q] at e
      | some l =>
        simp [stAll, q] at e
        subst e
        exact .cons r (ih q)
    | fr es =>
      cases q : stAll as with
      | none => simp [stAll, q] at e
      | some l =>
        simp [stAll, q] at e
        subst e
        exact .cons (RepAV.stab r) (ih q)
    | ow es => simp [stAll] at e
    | pn => simp [stAll] at e
end
section
variable {X : Cx} {e : Expr} {es : List Expr} {ae : AE} {aa : AA} {pos p : Pos}
theorem aa_nil : AAx X [] aNil := pa_nil.imp fun σ H Q ⟨W, n, ρ, AQ, hK, R, h, k⟩ => k [] H [] n Xt.refl R .nil h
theorem aa_cons (he : AEx X e ae) (hr : AAx X es aa) (hs : starEach (e :: es) X.env = (false, eval e X.env) :: starEach es X.env := by rfl) : AAx X (e :: es) (aCons ae aa) := by
  refine (pa_cons he hr hs).imp fun σ H Q ⟨W, n, ρ, AQ, hK, R, h, k⟩ => ?_
  refine ⟨W, n, ρ, _, hK, R, h, fun x H1 ax n1 e1 R1 rx hx => ⟨W, n1, ρ, _, hK, R1, hx, fun xs H2 axs n2 e2 R2 rs hs => ?_⟩⟩
  exact k (x :: xs) H2 (ax :: axs) n2 (e1.trans e2) R2 (.cons (rx.mono R1 e2) (rs.early R e1)) hs
/-- *e in a display -/
def aStar (ae : AE) (ar : AA) : AA := fun ρ n Q => ae ρ n fun x n1 => match x.d with
  | .lst ds => ar ρ n1 fun xs n2 => Q (ds.map AV.st ++ xs) n2
  | .tup ds => ar ρ n1 fun xs n2 => Q (ds.map AV.st ++ xs) n2
  | _ => False
theorem RepAVs.of_all {W : Wd} {ρ : Env} {σ : L2.St} {H0 H : Hp} : ∀ {vs : List V} {ds : List D}, RepAll W.K (off (Out W ρ σ) H) vs ds → ∀ {ws : List V} {avs : List AV}, RepAVs W ρ σ H0 H ws avs → RepAVs W ρ σ H0 H (vs ++ ws) (ds.map AV.st ++ avs)
  | _, _, .nil, _, _, h => h
  | _, _, .cons r t, _, _, h => .cons r (RepAVs.of_all t h)
theorem aa_star (he : AEx X e ae) (hr : AAx X es aa) (hs : starEach (.Starred e p :: es) X.env = (true, eval e X.env) :: starEach es X.env := by rfl) : AAx X (.Starred e p :: es) (aStar ae aa) := by
  refine (StX.pa_star he hr hs).imp fun σ H Q ⟨W, n, ρ, AQ, hK, R, h, k⟩ => ?_
  refine ⟨W, n, ρ, _, hK, R, h, fun x H1 ax n1 e1 R1 rx hx => ?_⟩
  try dsimp only at hx
  split at hx
  · next ds hd =>
    obtain ⟨a, xs, rfl, h1, h2⟩ := rx.items hd
    refine ⟨a, xs, rfl, .inr (.inl (.inl h1)), W, n1, ρ, _, hK, R1, hx, fun ys H2 ays n2 e2 R2 rs hs => ?_⟩
    exact k _ H2 _ n2 (e1.trans e2) R2 (RepAVs.of_all (h2.mono (R1.offs e2)) (rs.early R e1)) hs
  · next ds hd =>
    obtain ⟨a, xs, rfl, h1, h2⟩ := rx.itemsT hd
    rw [hK] at h1
    refine ⟨a, xs, rfl, .inl h1, W, n1, ρ, _, hK, R1, hx, fun ys H2 ays n2 e2 R2 rs hs => ?_⟩
    exact k _ H2 _ n2 (e1.trans e2) R2 (RepAVs.of_all (h2.mono (R1.offs e2)) (rs.early R e1)) hs
  · exact hx.elim
def aTup (aa : AA) : AE := fun ρ n Q => aa ρ n fun xs n1 => match stAll xs with
  | some ds => ds.length ≤ 100000 ∧ Q (.st (.tup ds)) n1
  | none => False
def aLst (aa : AA) : AE := fun ρ n Q => aa ρ n fun xs n1 => match stAll xs with
  | some ds => ds.length ≤ 100000 ∧ Q (.fr ds) n1
  | none => False
theorem sz5 {n : Nat} (h : n ≤ 100000) : n ≤ sizeLine := Nat.le_trans h (by decide)
theorem sz5' {n : Nat} (h : n < 100000) : n < sizeLine := Nat.lt_of_lt_of_le h (by decide)
theorem ae_tup {x1} (ha : AAx X es aa) : AEx X (.Tuple es x1 pos) (aTup aa) := by
  refine (pe_tup ha).imp fun σ H Q ⟨W, n, ρ, AQ, hK, R, h, k⟩ => ?_
  refine ⟨W, n, ρ, _, hK, R, h, fun xs H1 axs n1 e1 R1 rs hx => ?_⟩
  try dsimp only at hx
  split at hx
  · next ds hd =>
    have r := rs.stab hd
    exact ⟨by rw [r.length]; exact sz5 hx.1, fun p hp => (k.late R e1).tup R1 hp r hx.2⟩
  · exact hx.elim
theorem ae_lst (ha : AAx X es aa) : AEx X (.List es pos) (aLst aa) := by
  refine (pe_lst ha).imp fun σ H Q ⟨W, n, ρ, AQ, hK, R, h, k⟩ => ?_
  refine ⟨W, n, ρ, _, hK, R, h, fun xs H1 axs n1 e1 R1 rs hx => ?_⟩
  try dsimp only at hx
  split at hx
  · next ds hd =>
    have r := rs.stab hd
    exact ⟨by rw [r.length]; exact sz5 hx.1, fun p hp => (k.late R e1).fr R1 hp r hx.2⟩
  · exact hx.elim
end

/-! ### tests, choices -/
/-- either way, by a bool -/
def br (b : Bool) (A B : Prop) : Prop := (b = true → A) ∧ (b = false → B)
theorem br_t {A B : Prop} (h : br true A B) : A := h.1 rfl
theorem br_f {A B : Prop} (h : br false A B) : B := h.2 rfl
def aAnd (t u : AT) : AT := fun ρ n Q => t ρ n fun c n1 => br c (u ρ n1 Q) (Q false n1)
def aOr (t u : AT) : AT := fun ρ n Q => t ρ n fun c n1 => br c (Q true n1) (u ρ n1 Q)
def aNot (t : AT) : AT := fun ρ n Q => t ρ n fun c n1 => Q (!c) n1
def aIf (t : AT) (a b : AE) : AE := fun ρ n Q => t ρ n fun c n1 => br c (a ρ n1 Q) (b ρ n1 Q)
def aAndV (a b : AE) : AE := fun ρ n Q => a ρ n fun x n1 => match x.d with
  | .bl true => b ρ n1 Q
  | .bl false => Q (.st (.bl false)) n1
  | _ => False
def aOrV (a b : AE) : AE := fun ρ n Q => a ρ n fun x n1 => match x.d with
  | .bl false => b ρ n1 Q
  | .bl true => Q (.st (.bl true)) n1
  | _ => False
def aNotV (a : AE) : AE := fun ρ n Q => a ρ n fun x n1 => match x.d with
  | .bl b => Q (.st (.bl !b)) n1
  | _ => False
section
variable {X : Cx} {a b c : Expr} {rest : List Expr} {aa ab : AE} {t u : AT} {pos : Pos}
theorem aw_and1 (ha : ATx X a t) : AWx X (.BoolOp .And [a] pos) t := pw_and1 ha
theorem aw_or1 (ha : ATx X a t) : AWx X (.BoolOp .Or [a] pos) t := pw_or1 ha
theorem AW.at (h : AWx X a t) : ATx X a t := PW.pt h
theorem aw_and (ha : ATx X a t) (hb : AWx X (.BoolOp .And (b :: rest) pos) u) : AWx X (.BoolOp .And (a :: b :: rest) pos) (aAnd t u) := by
  refine (pw_and ha hb).imp fun σ H Q ⟨W, n, ρ, AQ, hK, R, h, k⟩ => ?_
  refine ⟨W, n, ρ, _, hK, R, h, fun c H1 n1 e1 R1 hc => ?_⟩
  try dsimp only at hc
  cases c with
  | true => exact ⟨W, n1, ρ, AQ, hK, R1, br_t hc, fun b H2 n2 e2 R2 q => k b H2 n2 (e1.trans e2) R2 q⟩
  | false => exact k false H1 n1 e1 R1 (br_f hc)
theorem aw_or (ha : ATx X a t) (hb : AWx X (.BoolOp .Or (b :: rest) pos) u) : AWx X (.BoolOp .Or (a :: b :: rest) pos) (aOr t u) := by
  refine (pw_or ha hb).imp fun σ H Q ⟨W, n, ρ, AQ, hK, R, h, k⟩ => ?_
  refine ⟨W, n, ρ, _, hK, R, h, fun c H1 n1 e1 R1 hc => ?_⟩
  try dsimp only at hc
  cases c with
  | false => exact ⟨W, n1, ρ, AQ, hK, R1, br_f hc, fun b H2 n2 e2 R2 q => k b H2 n2 (e1.trans e2) R2 q⟩
  | true => exact k true H1 n1 e1 R1 (br_t hc)
theorem at_not (ha : ATx X a t) : ATx X (.UnaryOp .Not a pos) (aNot t) := by
  refine (pt_not ha).imp fun σ H Q ⟨W, n, ρ, AQ, hK, R, h, k⟩ => ?_
  exact ⟨W, n, ρ, _, hK, R, h, fun c H1 n1 e1 R1 hc => k _ H1 n1 e1 R1 hc⟩
theorem ae_if (hc : ATx X c t) (ha : AEx X a aa) (hb : AEx X b ab) : AEx X (.IfExp c a b pos) (aIf t aa ab) := by
  refine (pe_ifExp hc ha hb).imp fun σ H Q ⟨W, n, ρ, AQ, hK, R, h, k⟩ => ?_
  refine ⟨W, n, ρ, _, hK, R, h, fun c H1 n1 e1 R1 hc => ?_⟩
  try dsimp only at hc
  cases c with
  | true => exact ⟨W, n1, ρ, AQ, hK, R1, br_t hc, k.late R e1⟩
  | false => exact ⟨W, n1, ρ, AQ, hK, R1, br_f hc, k.late R e1⟩
theorem ae_one {op} (h : AEx X a aa) : AEx X (.BoolOp op [a] pos) aa := pe_one h
theorem ae_and (ha : AEx X a aa) (hb : AEx X (.BoolOp .And (b :: rest) pos) ab) : AEx X (.BoolOp .And (a :: b :: rest) pos) (aAndV aa ab) := by
  refine (pe_and ha hb).imp fun σ H Q ⟨W, n, ρ, AQ, hK, R, h, k⟩ => ?_
  refine ⟨W, n, ρ, _, hK, R, h, fun x H1 ax n1 e1 R1 rx hx => ?_⟩
  try dsimp only at hx
  split at hx
  · next hb => exact ⟨true, rx.bl_of hb, W, n1, ρ, AQ, hK, R1, hx, k.late R e1⟩
  · next hb => exact ⟨false, rx.bl_of hb, (k.late R e1).bl R1 hx⟩
  · exact hx.elim
theorem ae_or (ha : AEx X a aa) (hb : AEx X (.BoolOp .Or (b :: rest) pos) ab) : AEx X (.BoolOp .Or (a :: b :: rest) pos) (aOrV aa ab) := by
  refine (pe_or ha hb).imp fun σ H Q ⟨W, n, ρ, AQ, hK, R, h, k⟩ => ?_
  refine ⟨W, n, ρ, _, hK, R, h, fun x H1 ax n1 e1 R1 rx hx => ?_⟩
  try dsimp only at hx
  split at hx
  · next hb => exact ⟨false, rx.bl_of hb, W, n1, ρ, AQ, hK, R1, hx, k.late R e1⟩
  · next hb => exact ⟨true, rx.bl_of hb, (k.late R e1).bl R1 hx⟩
  · exact hx.elim
theorem ae_not (ha : AEx X a aa) : AEx X (.UnaryOp .Not a pos) (aNotV aa) := by
  refine (pe_not ha).imp fun σ H Q ⟨W, n, ρ, AQ, hK, R, h, k⟩ => ?_
  refine ⟨W, n, ρ, _, hK, R, h, fun x H1 ax n1 e1 R1 rx hx => ?_⟩
  try dsimp only at hx
  split at hx
  · next b hb => exact ⟨b, rx.bl_of hb, (k.late R e1).bl R1 hx⟩
  · exact hx.elim
end

/-! ### subscripts, slices -/
def dAt (x : D) : Option (List D) := match x with
  | .lst ds => some ds
  | .tup ds => some ds
  | _ => none
def arIx : AR2 := fun x y n Q => match x.d, y.d with
  | .lst ds, .int i => match atI ds i with
    | some d => Q (.st d) n
    | none => False
  | .tup ds, .int i => match atI ds i with
    | some d => Q (.st d) n
    | none => False
  | _, _ => False
theorem atI_rep {K : PySem.W.Frag} {H : Hp} {vs : List V} {ds : List D} {i : Int} {d : D} (r : RepAll K H vs ds) (e : atI ds i = some d) : ∃ v, atI vs i = some v ∧ Rep K H v d := by
  unfold atI at e ⊢
  rw [r.length]
  cases q : ixN ds.length i with
  | none => rw [q] at e; cases e
  | some j =>
    rw [q] at e
    obtain ⟨v, h1, h2⟩ := r.get (i := j) e
    exact ⟨v, h1, h2⟩
def rIxA (K : PySem.W.Frag) : R2 := fun x y H Q => rIxL K x y H Q ∨ rIxT K x y H Q ∨ rIxS x y H Q
section
variable {K : PySem.W.Frag}
theorem sr_ix : SimR2 K (rIx K) arIx := by
  intro W n ρ σ H0 H x y ax ay AQ Q hK R rx ry h k
  unfold arIx at h
  split at h
  · next ds i h1 h2 =>
    split at h
    · next d hd =>
      obtain ⟨a, xs, rfl, h3, h4⟩ := rx.items h1
      obtain ⟨v, h5, h6⟩ := atI_rep h4 hd
      exact .inl ⟨a, xs, i, v, rfl, ry.int_of h2, .inl (.inl h3), h5, k.at R (av := .st d) h6 h⟩
    · exact h.elim
  · next ds i h1 h2 =>
    split at h
    · next d hd =>
      obtain ⟨a, xs, rfl, h3, h4⟩ := rx.itemsT h1
      obtain ⟨v, h5, h6⟩ := atI_rep h4 hd
      subst hK
      exact .inr (.inl ⟨a, xs, i, v, rfl, ry.int_of h2, h3, h5, k.at R (av := .st d) h6 h⟩)
    · exact h.elim
  · exact h.elim
end
end Ab
set_option Elab.async false
set_option linter.all false
set_option maxRecDepth 100000
set_option maxHeartbeats 4000000
/-! AbC: slices, sums of lists, built-in calls, statements. -/
namespace Ab
open PySem PySem.Spec PyProof.Rows L2

/-! ### slices -/
abbrev AO := Env → Nat → (Option Int → Nat → Prop) → Prop
def upO (K : PySem.W.Frag) (ao : AO) : TO := fun σ H Q => ∃ (W : Wd) (n : Nat) (ρ : Env) (AQ : Option Int → Nat → Prop), W.K = K ∧ Rp W n ρ σ H ∧ ao ρ n AQ ∧ ∀ o H' n', Xt W.p H H' → Rp W n' ρ σ H' → AQ o n' → Q o H'
theorem _root_.L2.PO.imp {X : Cx} {e : Option Expr} {t t' : TO} (h : PO X e t) (k : ∀ σ H Q, t' σ H Q → t σ H Q) : PO X e t' := ⟨fun pins s σ H Q I q => h.run pins s σ H Q I (k σ H Q q)⟩
def aNoPart : AO := fun _ n Q => Q none n
def aPart (ae : AE) : AO := fun ρ n Q => ae ρ n fun x n1 => match x.d with
  | .int i => Q (some i) n1
  | _ => False
/-- the part lo:hi of some data -/
def cutD (ds : List D) (lo hi : Option Int) : List D := (ds.drop (HT.sIx ds.length 0 lo)).take (HT.sIx ds.length ds.length hi - HT.sIx ds.length 0 lo)
theorem cut_rep {K : PySem.W.Frag} {H : Hp} {vs : List V} {ds : List D} {lo hi : Option Int} (r : RepAll K H vs ds) : RepAll K H (cutV vs lo hi) (cutD ds lo hi) := by
  unfold cutV cutD
  rw [r.length]
  exact (r.drop _).take _
def aSl (ae : AE) (al ah : AO) : AE := fun ρ n Q => ae ρ n fun x n1 => al ρ n1 fun lo n2 => ah ρ n2 fun hi n3 => match x.d with
  | .lst ds => Q (.fr (cutD ds lo hi)) n3
  | .tup ds => Q (.st (.tup (cutD ds lo hi))) n3
  | _ => False
def aRev (ae : AE) : AE := fun ρ n Q => ae ρ n fun x n1 => match x.d with
  | .lst ds => Q (.fr ds.reverse) n1
  | _ => False
section
variable {X : Cx} {e : Expr} {lo hi : Option Expr} {ae : AE} {al ah : AO} {pos p2 : Pos}
theorem ao_none : PO X none (upO X.K aNoPart) := po_none.imp fun σ H Q ⟨W, n, ρ, AQ, hK, R, h, k⟩ => k none H n Xt.refl R h
theorem ao_some (he : AEx X e ae) : PO X (some e) (upO X.K (aPart ae)) := by
  refine (po_some he).imp fun σ H Q ⟨W, n, ρ, AQ, hK, R, h, k⟩ => ?_
  refine ⟨W, n, ρ, _, hK, R, h, fun v H1 av n1 e1 R1 r q => ?_⟩
  try dsimp only at q
  split at q
  · next i hi => exact ⟨i, r.int_of hi, k _ H1 n1 e1 R1 q⟩
  · exact q.elim
theorem ae_slice (he : AEx X e ae) (hl : PO X lo (upO X.K al)) (hh : PO X hi (upO X.K ah)) : AEx X (.Subscript e (.Slice lo hi none p2) pos) (aSl ae al ah) := by
  refine (pe_slice (sl_list.or sl_tupA) he hl hh).imp fun σ H Q ⟨W, n, ρ, AQ, hK, R, h, k⟩ => ?_
  refine ⟨W, n, ρ, _, hK, R, h, fun v H1 av n1 e1 R1 r q => ⟨W, n1, ρ, _, hK, R1, q, fun l H2 n2 e2 R2 q => ⟨W, n2, ρ, _, hK, R2, q, fun u H3 n3 e3 R3 q => ?_⟩⟩⟩
  have r3 := (r.mono R1 e2).mono R2 e3
  have k3 := k.late R (e1.trans (e2.trans e3))
  try dsimp only at q
  split at q
  · next ds hd =>
    obtain ⟨a, xs, rfl, h1, h2⟩ := r3.items hd
    exact .inl ⟨a, xs, rfl, .inl (.inl h1), fun p hp => k3.fr R3 hp (cut_rep h2) q⟩
  · next ds hd =>
    obtain ⟨a, xs, rfl, h1, h2⟩ := r3.itemsT hd
    rw [hK] at h1
    refine .inr ⟨a, xs, rfl, h1, fun hw => ?_, fun _ p hp => k3.tup R3 hp (cut_rep h2) q⟩
    refine k3.at R3 (av := .st (.tup (cutD ds l u))) ?_ q
    have z : cutD ds l u = ds := by
      unfold cutD
      rw [← h2.length, hw.1, hw.2, List.drop_zero, Nat.sub_zero, h2.length, List.take_length]
    show Rep W.K _ _ _
    rw [z]
    cases av with
    | st d =>
      cases hd
      exact r3
    | _ => cases hd
  · exact q.elim
theorem ae_rev {k : Nat} {p1 p3 p4 : Pos} (he : AEx X e ae) : AEx X (.Subscript e (.Slice none none (some (.UnaryOp .USub (.Constant (.int 1) k p1) p3)) p4) pos) (aRev ae) := by
  refine (pe_revL he).imp fun σ H Q ⟨W, n, ρ, AQ, hK, R, h, k⟩ => ?_
  refine ⟨W, n, ρ, _, hK, R, h, fun v H1 av n1 e1 R1 r q => ?_⟩
  try dsimp only at q
  split at q
  · next ds hd =>
    obtain ⟨a, xs, rfl, h1, h2⟩ := r.items hd
    exact ⟨a, xs, rfl, .inl (.inl h1), fun p hp => (k.late R e1).fr R1 hp h2.reverse q⟩
  · exact q.elim
end

/-! ### + of lists, of tuples -/
def rCatLA (K : PySem.W.Frag) : R2 := fun x y H Q => rCat x y H Q ∨ rCatA K x y H Q
def arCat : AR2 := fun x y n Q => match x.d, y.d with
  | .lst ds, .lst es => ds.length + es.length ≤ 100000 ∧ Q (.fr (ds ++ es)) n
  | .tup ds, .tup es => ds.length + es.length ≤ 100000 ∧ Q (.st (.tup (ds ++ es))) n
  | _, _ => False
theorem op_catLA {X : Cx} : OpR X (binaryOp .Add) (rCatLA X.K) := op_cat.or op_catA
section
variable {K : PySem.W.Frag}
theorem tup_stab {W : Wd} {ρ : Env} {σ : L2.St} {H0 H : Hp} {x : V} {ax : AV} {ds : List D} (r : RepAV W ρ σ H0 H x ax) (e : ax.d = .tup ds) : Rep W.K (off (Out W ρ σ) H) x (.tup ds) := by
  cases ax with
  | st d =>
    cases e
    exact r
  | _ => cases e
theorem sr_cat : SimR2 K (rCatLA K) arCat := by
  intro W n ρ σ H0 H x y ax ay AQ Q hK R rx ry h k
  unfold arCat at h
  split at h
  · next ds es h1 h2 =>
    obtain ⟨a, xs, rfl, h3, h4⟩ := rx.items h1
    obtain ⟨b, ys, rfl, h5, h6⟩ := ry.items h2
    exact .inl ⟨a, b, xs, ys, rfl, rfl, h3, h5, by rw [h4.length, h6.length]; exact sz5 h.1, fun p hp => k.fr R hp (h4.append h6) h.2⟩
  · next ds es h1 h2 =>
    obtain ⟨a, xs, rfl, h3, h4⟩ := rx.itemsT h1
    obtain ⟨b, ys, rfl, h5, h6⟩ := ry.itemsT h2
    subst hK
    refine .inr ⟨a, b, xs, ys, rfl, rfl, h3, h5, by rw [h4.length, h6.length]; exact sz5 h.1, fun e => ?_, fun _ e => ?_, fun _ _ p hp => k.tup R hp (h4.append h6) h.2⟩
    · subst e
      cases h4
      exact k.at R (av := .st (.tup es)) (tup_stab ry h2) h.2
    · subst e
      cases h6
      have q := h.2
      rw [List.append_nil] at q
      exact k.at R (av := .st (.tup ds)) (tup_stab rx h1) q
  · exact h.elim
end

/-! ### built-in calls by values -/
def SimRn (K : PySem.W.Frag) (r : List V → Hp → VK → Prop) (ar : ARn) : Prop := ∀ (W : Wd) (n : Nat) (ρ : Env) (σ : L2.St) (H0 H : Hp) (vs : List V) (avs : List AV) (AQ : AV → Nat → Prop) (Q : VK), W.K = K → Rp W n ρ σ H →
  RepAVs W ρ σ H0 H vs avs → ar avs n AQ → KE W ρ σ H AQ Q → r vs H Q
def aCB (ar : ARn) (aa : AA) : AE := fun ρ n Q => aa ρ n fun avs n1 => ar avs n1 Q
theorem sim_cb {K : PySem.W.Frag} {r : List V → Hp → VK → Prop} {ar : ARn} {aa : AA} (hr : SimRn K r ar) : ∀ σ H Q, upE K (aCB ar aa) σ H Q → tCB r (upA K aa) σ H Q := by
  rintro σ H Q ⟨W, n, ρ, AQ, hK, R, h, k⟩
  exact ⟨W, n, ρ, _, hK, R, h, fun vs H1 avs n1 e1 R1 rs q => hr W n1 ρ σ H H1 vs avs AQ Q hK R1 rs q (k.late R e1)⟩
section
variable {X : Cx} {e : Expr} {es : List Expr} {aa : AA} {pos p : Pos} {x : Str} {id T : String} {r : List V → Hp → VK → Prop} {ar : ARn}
theorem ae_callB (hc : CallR X (.builtin id) r) (hr : SimRn X.K r ar) (hg : Gl X x) (hm : X.mg x = none) (hv : bootBuiltins x = some (.builtin id)) (ha : AAx X (e :: es) aa) (hn : x ≠ "__name__" := by decide) (hdb : (x == ("__debug__" : Str)) = false := by decide)
    (he : starEach (e :: es) X.env = (false, eval e X.env) :: starEach es X.env := by rfl) (hpl : (backTo pos (starEach es X.env)).any (·.1) = false := by rfl) : AEx X (.Call (.Name x p) (e :: es) [] pos) (aCB ar aa) :=
  (pe_callB hc hg hm hv ha hn hdb he hpl).imp (sim_cb hr)
theorem ae_callTy (hc : CallR X (.type T) r) (hr : SimRn X.K r ar) (hg : Gl X x) (hm : X.mg x = none) (hv : bootBuiltins x = some (.type T)) (ha : AAx X (e :: es) aa) (hn : x ≠ "__name__" := by decide) (hdb : (x == ("__debug__" : Str)) = false := by decide)
    (he : starEach (e :: es) X.env = (false, eval e X.env) :: starEach es X.env := by rfl) (hpl : (backTo pos (starEach es X.env)).any (·.1) = false := by rfl) : AEx X (.Call (.Name x p) (e :: es) [] pos) (aCB ar aa) :=
  (pe_callTy hc hg hm hv ha hn hdb he hpl).imp (sim_cb hr)
theorem ae_callBfun (hc : CallR X (.builtin id) r) (hr : SimRn X.K r ar) (hg : Gl X x) (hm : X.mg x = some (.builtin id)) (ha : AAx X (e :: es) aa) (hdb : (x == ("__debug__" : Str)) = false := by decide)
    (he : starEach (e :: es) X.env = (false, eval e X.env) :: starEach es X.env := by rfl) (hpl : (backTo pos (starEach es X.env)).any (·.1) = false := by rfl) : AEx X (.Call (.Name x p) (e :: es) [] pos) (aCB ar aa) :=
  (pe_callBfun hc hg hm ha hdb he hpl).imp (sim_cb hr)
end
/-- the ints, the bools of data -/
def intsD : List D → Option (List Int)
  | [] => some []
  | .int i :: r => (intsD r).map (i :: ·)
  | _ => none
def boolsD : List D → Option (List Bool)
  | [] => some []
  | .bl i :: r => (boolsD r).map (i :: ·)
  | _ => none
theorem intsD_eq : ∀ {ds : List D} {ns : List Int}, intsD ds = some ns → ds = ns.map D.int
  | [], ns, h => by cases h; rfl
  | d :: ds, ns, h => by
    cases d with
    | int i =>
      cases q : intsD ds with
      | none => simp [intsD, q] at h
      | some l =>
        simp [intsD, q] at h
        subst h
        rw [intsD_eq q]
        rfl
    | _ => simp [intsD] at h
theorem boolsD_eq : ∀ {ds : List D} {ns : List Bool}, boolsD ds = some ns → ds = ns.map D.bl
  | [], ns, h => by cases h; rfl
  | d :: ds, ns, h => by
    cases d with
    | bl i =>
      cases q : boolsD ds with
      | none => simp [boolsD, q] at h
      | some l =>
        simp [boolsD, q] at h
        subst h
        rw [boolsD_eq q]
        rfl
    | _ => simp [boolsD] at h
theorem intsD_map : ∀ (ns : List Int), intsD (ns.map D.int) = some ns
  | [] => rfl
  | n :: ns => by
    show (intsD (ns.map D.int)).map (n :: ·) = _
    rw [intsD_map ns]
    rfl
theorem boolsD_map : ∀ (ns : List Bool), boolsD (ns.map D.bl) = some ns
  | [] => rfl
  | n :: ns => by
    show (boolsD (ns.map D.bl)).map (n :: ·) = _
    rw [boolsD_map ns]
    rfl
def arLen : ARn := fun avs n Q => match avs with
  | [x] => match x.d with
    | .lst ds => Q (.st (.int ds.length)) n
    | .tup ds => Q (.st (.int ds.length)) n
    | _ => False
  | _ => False
def arAbs : ARn := fun avs n Q => match avs with
  | [x] => match x.d with
    | .int i => Q (.st (.int (if i < 0 then -i else i))) n
    | _ => False
  | _ => False
def arInt : ARn := fun avs n Q => match avs with
  | [x] => match x.d with
    | .int i => Q (.st (.int i)) n
    | .bl b => Q (.st (.int (if b then 1 else 0))) n
    | _ => False
  | _ => False
def arSum : ARn := fun avs n Q => match avs with
  | [x] => match x.d with
    | .lst ds => match intsD ds with
      | some ns => Q (.st (.int ns.sum)) n
      | none => False
    | _ => False
  | _ => False
def arMax : ARn := fun avs n Q => match avs with
  | [x] => match x.d with
    | .lst ds => match intsD ds with
      | some ns => 0 < ns.length ∧ ∀ m, m ∈ ns → (∀ y, y ∈ ns → y ≤ m) → Q (.st (.int m)) n
      | none => False
    | _ => False
  | _ => False
def arAll : ARn := fun avs n Q => match avs with
  | [x] => match x.d with
    | .lst ds => match boolsD ds with
      | some bs => Q (.st (.bl (bs.all id))) n
      | none => False
    | _ => False
  | _ => False
def arMin2 : ARn := fun avs n Q => match avs with
  | [x, y] => match x.d, y.d with
    | .int i, .int j => Q (.st (.int (if j < i then j else i))) n
    | _, _ => False
  | _ => False
def arMax2 : ARn := fun avs n Q => match avs with
  | [x, y] => match x.d, y.d with
    | .int i, .int j => Q (.st (.int (if j > i then j else i))) n
    | _, _ => False
  | _ => False
def arGcd : ARn := fun avs n Q => match avs with
  | [x, y] => match x.d, y.d with
    | .int i, .int j => Q (.st (.int ((Nat.gcd i.natAbs j.natAbs : Nat) : Int))) n
    | _, _ => False
  | _ => False
def arList : ARn := fun avs n Q => match avs with
  | [x] => match x.d with
    | .lst ds => Q (.fr ds) n
    | .tup ds => Q (.fr ds) n
    | _ => False
  | _ => False
def arTuple : ARn := fun avs n Q => match avs with
  | [x] => match x.d with
    | .lst ds => Q (.st (.tup ds)) n
    | .tup ds => Q (.st (.tup ds)) n
    | _ => False
  | _ => False
section
variable {K : PySem.W.Frag} {W : Wd} {n : Nat} {ρ : Env} {σ : L2.St} {H0 H : Hp} {vs : List V}
theorem RepAVs.one {a : AV} (h : RepAVs W ρ σ H0 H vs [a]) : ∃ v, vs = [v] ∧ RepAV W ρ σ H0 H v a := by
  cases h with
  | cons r t =>
    cases t
    exact ⟨_, rfl, r⟩
theorem RepAVs.two {a b : AV} (h : RepAVs W ρ σ H0 H vs [a, b]) : ∃ v w, vs = [v, w] ∧ RepAV W ρ σ H0 H v a ∧ RepAV W ρ σ H0 H w b := by
  cases h with
  | cons r t =>
    obtain ⟨w, rfl, r2⟩ := t.one
    exact ⟨_, _, rfl, r, r2⟩
theorem sn_len : SimRn K (fun xs H Q => ∃ x n, xs = [x] ∧ LenV K x H n ∧ Q (.int n) H) arLen := by
  intro W n ρ σ H0 H vs avs AQ Q hK R rs h k
  unfold arLen at h
  split at h
  · next x =>
    obtain ⟨v, rfl, r⟩ := rs.one
    split at h
    · next ds hd =>
      obtain ⟨a, xs, rfl, h1, h2⟩ := r.items hd
      exact ⟨_, ds.length, rfl, .inl ⟨xs, .inl (.inl h1), h2.length.symm⟩, k.int R h⟩
    · next ds hd =>
      obtain ⟨a, xs, rfl, h1, h2⟩ := r.itemsT hd
      subst hK
      exact ⟨_, ds.length, rfl, .inr ⟨xs, h1, h2.length.symm⟩, k.int R h⟩
    · exact h.elim
  · exact h.elim
theorem sn_abs : SimRn K (fun xs H Q => ∃ i, xs = [.int i] ∧ Q (.int (if i < 0 then -i else i)) H) arAbs := by
  intro W n ρ σ H0 H vs avs AQ Q hK R rs h k
  unfold arAbs at h
  split at h
  · obtain ⟨v, rfl, r⟩ := rs.one
    split at h
    · next i hi =>
      rw [r.int_of hi]
      exact ⟨i, rfl, k.int R h⟩
    · exact h.elim
  · exact h.elim
theorem sn_int : SimRn K (fun xs H Q => (∃ i, xs = [.int i] ∧ Q (.int i) H) ∨ ∃ k, xs = [.bl k] ∧ Q (.int (if k then 1 else 0)) H) arInt := by
  intro W n ρ σ H0 H vs avs AQ Q hK R rs h k
  unfold arInt at h
  split at h
  · obtain ⟨v, rfl, r⟩ := rs.one
    split at h
    · next i hi =>
      rw [r.int_of hi]
      exact .inl ⟨i, rfl, k.int R h⟩
    · next b hb =>
      rw [r.bl_of hb]
      exact .inr ⟨b, rfl, k.int R h⟩
    · exact h.elim
  · exact h.elim
theorem sn_sum : SimRn K (rSum K) arSum := by
  intro W n ρ σ H0 H vs avs AQ Q hK R rs h k
  unfold arSum at h
  split at h
  · obtain ⟨v, rfl, r⟩ := rs.one
    split at h
    · next ds hd =>
      split at h
      · next ns hn =>
        obtain ⟨a, xs, rfl, h1, h2⟩ := r.items hd
        rw [intsD_eq hn] at h2
        rw [h2.ints] at h1
        exact ⟨a, ns, rfl, .inl (.inl h1), k.int R h⟩
      · exact h.elim
    · exact h.elim
  · exact h.elim
theorem sn_max : SimRn K (rMax K) arMax := by
  intro W n ρ σ H0 H vs avs AQ Q hK R rs h k
  unfold arMax at h
  split at h
  · obtain ⟨v, rfl, r⟩ := rs.one
    split at h
    · next ds hd =>
      split at h
      · next ns hn =>
        obtain ⟨a, xs, rfl, h1, h2⟩ := r.items hd
        rw [intsD_eq hn] at h2
        rw [h2.ints] at h1
        exact ⟨a, ns, rfl, .inl (.inl h1), h.1, fun m h2 h3 => k.int R (h.2 m h2 h3)⟩
      · exact h.elim
    · exact h.elim
  · exact h.elim
theorem sn_all : SimRn K (rAll K) arAll := by
  intro W n ρ σ H0 H vs avs AQ Q hK R rs h k
  unfold arAll at h
  split at h
  · obtain ⟨v, rfl, r⟩ := rs.one
    split at h
    · next ds hd =>
      split at h
      · next ns hn =>
        obtain ⟨a, xs, rfl, h1, h2⟩ := r.items hd
        rw [boolsD_eq hn] at h2
        rw [h2.bools] at h1
        exact ⟨a, ns, rfl, .inl (.inl h1), k.bl R h⟩
      · exact h.elim
    · exact h.elim
  · exact h.elim
theorem sn_min2 : SimRn K (fun xs H Q => ∃ i j, xs = [.int i, .int j] ∧ Q (.int (if j < i then j else i)) H) arMin2 := by
  intro W n ρ σ H0 H vs avs AQ Q hK R rs h k
  unfold arMin2 at h
  split at h
  · obtain ⟨v, w, rfl, r, r2⟩ := rs.two
    split at h
    · next i j hi hj =>
      rw [r.int_of hi, r2.int_of hj]
      exact ⟨i, j, rfl, k.int R h⟩
    · exact h.elim
  · exact h.elim
theorem sn_max2 : SimRn K (fun xs H Q => ∃ i j, xs = [.int i, .int j] ∧ Q (.int (if j > i then j else i)) H) arMax2 := by
  intro W n ρ σ H0 H vs avs AQ Q hK R rs h k
  unfold arMax2 at h
  split at h
  · obtain ⟨v, w, rfl, r, r2⟩ := rs.two
    split at h
    · next i j hi hj =>
      rw [r.int_of hi, r2.int_of hj]
      exact ⟨i, j, rfl, k.int R h⟩
    · exact h.elim
  · exact h.elim
theorem sn_gcd : SimRn K rGcd arGcd := by
  intro W n ρ σ H0 H vs avs AQ Q hK R rs h k
  unfold arGcd at h
  split at h
  · obtain ⟨v, w, rfl, r, r2⟩ := rs.two
    split at h
    · next i j hi hj =>
      rw [r.int_of hi, r2.int_of hj]
      exact ⟨i, j, rfl, k.int R h⟩
    · exact h.elim
  · exact h.elim
theorem sn_list : SimRn K (fun xs H Q => ∃ p ys, xs = [.ref p] ∧ (SqL K H p ys ∨ SqT K H p ys) ∧ ∀ l, H l = none → Q (.ref l) (upd H l (.lst ys))) arList := by
  intro W n ρ σ H0 H vs avs AQ Q hK R rs h k
  unfold arList at h
  split at h
  · obtain ⟨v, rfl, r⟩ := rs.one
    split at h
    · next ds hd =>
      obtain ⟨a, xs, rfl, h1, h2⟩ := r.items hd
      exact ⟨a, xs, rfl, .inl (.inl (.inl h1)), fun l hl => k.fr R hl h2 h⟩
    · next ds hd =>
      obtain ⟨a, xs, rfl, h1, h2⟩ := r.itemsT hd
      subst hK
      exact ⟨a, xs, rfl, .inr h1, fun l hl => k.fr R hl h2 h⟩
    · exact h.elim
  · exact h.elim
theorem sn_tuple : SimRn K (fun xs H Q => ∃ p ys, xs = [.ref p] ∧ ((SqL K H p ys ∧ ∀ l, H l = none → Q (.ref l) (upd H l (.tup ys))) ∨ (SqT K H p ys ∧ Q (.ref p) H))) arTuple := by
  intro W n ρ σ H0 H vs avs AQ Q hK R rs h k
  unfold arTuple at h
  split at h
  · obtain ⟨v, rfl, r⟩ := rs.one
    split at h
    · next ds hd =>
      obtain ⟨a, xs, rfl, h1, h2⟩ := r.items hd
      exact ⟨a, xs, rfl, .inl ⟨.inl (.inl h1), fun l hl => k.tup R hl h2 h⟩⟩
    · next ds hd =>
      obtain ⟨a, xs, rfl, h1, h2⟩ := r.itemsT hd
      subst hK
      exact ⟨a, xs, rfl, .inr ⟨h1, k.at R (av := .st (.tup ds)) (tup_stab r hd) h⟩⟩
    · exact h.elim
  · exact h.elim
end
end Ab
set_option Elab.async false
set_option linter.all false
set_option maxRecDepth 100000
set_option maxHeartbeats 4000000
/-! AbD: stores, targets, loops, comprehensions. -/
namespace Ab
open PySem PySem.Spec PyProof.Rows L2

/-! ### stores -/
section
variable {W : Wd} {n n' : Nat} {ρ : Env} {σ : L2.St} {H H1 H' : Hp} {v : V} {d : D} {i : Nat}
theorem set_get {α : Type} {l : List α} {i j : Nat} {x y : α} (h : (l.set i x)[j]? = some y) : (j = i ∧ y = x ∧ i < l.length) ∨ (j ≠ i ∧ l[j]? = some y) := by
  by_cases e : i = j
  · subst e
    by_cases hl : i < l.length
    · rw [List.getElem?_set_self hl] at h
      exact .inl ⟨rfl, (Option.some.inj h).symm, hl⟩
    · rw [List.getElem?_eq_none (by simpa using hl)] at h
      cases h
  · rw [List.getElem?_set_ne e] at h
    exact .inr ⟨fun z => e z.symm, h⟩
theorem owns_dat {s : Sl} {o : Option V} (hs : ∀ ds, s ≠ .own ds) {a : Addr} (h : owns (ρ.set i s) (σ.set i o) a) : owns ρ σ a := by
  obtain ⟨j, ds, h1, h2⟩ := h
  rcases set_get h1 with ⟨_, e, _⟩ | ⟨hj, h1⟩
  · exact absurd e.symm (hs ds)
  · rw [List.getElem?_set_ne (Ne.symm hj)] at h2
    exact ⟨j, ds, h1, h2⟩
theorem Rp.set_gen (R : Rp W n ρ σ H) {s : Sl} {o : Option V} (hs : ∀ ds, s ≠ .own ds) (hd : ∀ d, s = .dat d → ∃ v, o = some v ∧ Rep W.K (off (Out W ρ σ) H) v d) (hp : s = .pen → o = some (.ref W.p)) : Rp W n (ρ.set i s) (σ.set i o) H := by
  have sub : ∀ a, Out W (ρ.set i s) (σ.set i o) a → Out W ρ σ a := fun a h => h.elim .inl fun h => .inr (owns_dat hs h)
  have sm : Same (off (Out W ρ σ) H) (off (Out W (ρ.set i s) (σ.set i o)) H) := off_sub (fun a _ _ h q => h (sub a q)) fun _ _ h _ => h
  refine ⟨R.wc, R.wp, R.sp, R.cp, R.sb, R.ex, R.pen, by rw [List.length_set, List.length_set, R.len], fun j d h => ?_, fun j ds h => ?_, fun j k ds es a h1 h2 h3 h4 => ?_, fun j h => ?_⟩
  · rcases set_get h with ⟨rfl, e, hl⟩ | ⟨hj, h⟩
    · obtain ⟨v, rfl, r⟩ := hd d e.symm
      exact ⟨v, by rw [List.getElem?_set_self (by rw [← R.len]; exact hl)], r.mono sm⟩
    · obtain ⟨v, h1, h2⟩ := R.dat j d h
      exact ⟨v, by rw [List.getElem?_set_ne (Ne.symm hj)]; exact h1, h2.mono sm⟩
  · rcases set_get h with ⟨rfl, e, hl⟩ | ⟨hj, h⟩
    · exact absurd e.symm (hs ds)
    · obtain ⟨a, xs, h1, h2, h3, h4, h5⟩ := R.own j ds h
      exact ⟨a, xs, by rw [List.getElem?_set_ne (Ne.symm hj)]; exact h1, h2, h3, h4, h5.mono sm⟩
  · rcases set_get h1 with ⟨_, e, _⟩ | ⟨hj, h1⟩
    · exact absurd e.symm (hs ds)
    · rcases set_get h2 with ⟨_, e, _⟩ | ⟨hk, h2⟩
      · exact absurd e.symm (hs es)
      · rw [List.getElem?_set_ne (Ne.symm hj)] at h3
        rw [List.getElem?_set_ne (Ne.symm hk)] at h4
        exact R.inj j k ds es a h1 h2 h3 h4
  · rcases set_get h with ⟨rfl, e, hl⟩ | ⟨hj, h⟩
    · rw [List.getElem?_set_self (by rw [← R.len]; exact hl), hp e.symm]
    · rw [List.getElem?_set_ne (Ne.symm hj)]
      exact R.pn j h
theorem Rp.setDat (R : Rp W n ρ σ H) (r : Rep W.K (off (Out W ρ σ) H) v d) : Rp W n (ρ.set i (.dat d)) (σ.set i (some v)) H :=
  R.set_gen (fun _ h => by cases h) (fun d' e => by cases e; exact ⟨v, rfl, r⟩) fun e => by cases e
theorem Rp.setPen (R : Rp W n ρ σ H) : Rp W n (ρ.set i .pen) (σ.set i (some (.ref W.p))) H :=
  R.set_gen (fun _ h => by cases h) (fun d' e => by cases e) fun e => rfl
theorem Rp.wipe1 (R : Rp W n ρ σ H) : Rp W n (ρ.set i .un) (σ.set i none) H :=
  R.set_gen (fun _ h => by cases h) (fun d' e => by cases e) fun e => by cases e
/-- a new list of one's own -/
theorem Rp.setOwn {ds : List D} (R : Rp W n ρ σ H) (e : Xt W.p H H1) (R1 : Rp W n' ρ σ H1) (r : RepAV W ρ σ H H1 v (.fr ds)) : Rp W n' (ρ.set i (.own ds)) (σ.set i (some v)) H1 := by
  obtain ⟨a, xs, rfl, h0, hO, ha, hx⟩ := r
  have hap : a ≠ W.p := R.ne_p h0
  have owns' : ∀ b, owns (ρ.set i (.own ds)) (σ.set i (some (.ref a))) b → owns ρ σ b ∨ b = a := fun b hb => by
    obtain ⟨j, es, h1, h2⟩ := hb
    rcases set_get h1 with ⟨rfl, q, hl⟩ | ⟨hj, h1⟩
    · rw [List.getElem?_set_self (by rw [← R.len]; exact hl)] at h2
      cases h2
      exact .inr rfl
    · rw [List.getElem?_set_ne (Ne.symm hj)] at h2
      exact .inl ⟨j, es, h1, h2⟩
  have out' : ∀ b, Out W (ρ.set i (.own ds)) (σ.set i (some (.ref a))) b → Out W ρ σ b ∨ b = a := fun b hb => hb.elim (fun z => .inl (.inl z)) fun z => (owns' b z).elim (fun z => .inl (.inr z)) .inr
  have sm : Same (off (Out W ρ σ) H) (off (Out W (ρ.set i (.own ds)) (σ.set i (some (.ref a)))) H1) := off_sub (fun b o hb hn q => (out' b q).elim hn fun z => by rw [z, h0] at hb; cases hb) fun b o hb hn => e b o hb fun z => hn (z ▸ R.out_p)
  have sa : Same (off (fun b => Out W ρ σ b ∨ b = a) H1) (off (Out W (ρ.set i (.own ds)) (σ.set i (some (.ref a)))) H1) := off_sub (fun b o hb hn q => hn (out' b q)) fun b o hb hn => hb
  have trk : ∀ (j : Nat) es b, ρ[j]? = some (.own es) → σ[j]? = some (some (.ref b)) → b ≠ a := fun j es b h1 h2 z => by
    obtain ⟨c, ys, q1, _, _, q4, _⟩ := R.own j es h1
    rw [h2] at q1
    cases q1
    rw [z, h0] at q4
    cases q4
  refine ⟨R.wc, R.wp, R.sp, R.cp, R1.sb, R1.ex, R1.pen, by rw [List.length_set, List.length_set, R.len], fun j d h => ?_, fun j es h => ?_, fun j k es fs b h1 h2 h3 h4 => ?_, fun j h => ?_⟩
  · rcases set_get h with ⟨rfl, q, hl⟩ | ⟨hj, h⟩
    · cases q
    · obtain ⟨w, h1, h2⟩ := R.dat j d h
      exact ⟨w, by rw [List.getElem?_set_ne (Ne.symm hj)]; exact h1, h2.mono sm⟩
  · rcases set_get h with ⟨rfl, q, hl⟩ | ⟨hj, h⟩
    · cases q
      refine ⟨a, xs, by rw [List.getElem?_set_self (by rw [← R.len]; exact hl)], ?_, fun z => hO (.inl z), ha, hx.mono sa⟩
      cases q : W.B a with
      | none => rfl
      | some o =>
        rw [R.ex a o q hap] at h0
        cases h0
    · obtain ⟨b, ys, h1, h2, h3, h4, h5⟩ := R.own j es h
      exact ⟨b, ys, by rw [List.getElem?_set_ne (Ne.symm hj)]; exact h1, h2, h3, e b _ h4 fun z => h3 (z ▸ R.sp), h5.mono sm⟩
  · rcases set_get h1 with ⟨ej, q, hl⟩ | ⟨hj, g1⟩
    · rw [ej, List.getElem?_set_self (by rw [← R.len]; exact hl)] at h3
      cases h3
      rcases set_get h2 with ⟨ek, _, _⟩ | ⟨hk, g2⟩
      · rw [ej, ek]
      · rw [List.getElem?_set_ne (Ne.symm hk)] at h4
        exact absurd rfl (trk k fs a g2 h4)
    · rw [List.getElem?_set_ne (Ne.symm hj)] at h3
      rcases set_get h2 with ⟨ek, q, hl⟩ | ⟨hk, g2⟩
      · rw [ek, List.getElem?_set_self (by rw [← R.len]; exact hl)] at h4
        cases h4
        exact absurd rfl (trk j es a g1 h3)
      · rw [List.getElem?_set_ne (Ne.symm hk)] at h4
        exact R.inj j k es fs b g1 g2 h3 h4
  · rcases set_get h with ⟨rfl, q, hl⟩ | ⟨hj, h⟩
    · cases q
    · rw [List.getElem?_set_ne (Ne.symm hj)]
      exact R.pn j h
/-- an own list that grows no more -/
theorem Rp.freeze {ds : List D} (R : Rp W n ρ σ H) (hi : ρ[i]? = some (.own ds)) : Rp W n (ρ.set i (.dat (.lst ds))) σ H := by
  have owns' : ∀ b, owns (ρ.set i (.dat (.lst ds))) σ b → owns ρ σ b := fun b hb => by
    obtain ⟨j, es, h1, h2⟩ := hb
    rcases set_get h1 with ⟨_, q, _⟩ | ⟨hj, h1⟩
    · cases q
    · exact ⟨j, es, h1, h2⟩
  have sm : Same (off (Out W ρ σ) H) (off (Out W (ρ.set i (.dat (.lst ds))) σ) H) := off_sub (fun b o hb hn q => hn (q.elim .inl fun z => .inr (owns' b z))) fun _ _ h _ => h
  refine ⟨R.wc, R.wp, R.sp, R.cp, R.sb, R.ex, R.pen, by rw [List.length_set, R.len], fun j d h => ?_, fun j es h => ?_, fun j k es fs b h1 h2 h3 h4 => ?_, fun j h => ?_⟩
  · rcases set_get h with ⟨rfl, q, hl⟩ | ⟨hj, h⟩
    · cases q
      obtain ⟨a, xs, h1, h2, h3, h4, h5⟩ := R.own j ds hi
      refine ⟨.ref a, h1, .lst ?_ (h5.mono sm)⟩
      rw [off_no]
      · exact h4
      · rintro (z | ⟨k, es, z1, z2⟩)
        · exact h3 z
        · rcases set_get z1 with ⟨_, q, _⟩ | ⟨hk, z1⟩
          · cases q
          · exact hk (R.inj k j es ds a z1 hi z2 h1)
    · obtain ⟨w, h1, h2⟩ := R.dat j d h
      exact ⟨w, h1, h2.mono sm⟩
  · rcases set_get h with ⟨rfl, q, hl⟩ | ⟨hj, h⟩
    · cases q
    · obtain ⟨b, ys, h1, h2, h3, h4, h5⟩ := R.own j es h
      exact ⟨b, ys, h1, h2, h3, h4, h5.mono sm⟩
  · rcases set_get h1 with ⟨_, q, _⟩ | ⟨_, h1⟩
    · cases q
    · rcases set_get h2 with ⟨_, q, _⟩ | ⟨_, h2⟩
      · cases q
      · exact R.inj j k es fs b h1 h2 h3 h4
  · rcases set_get h with ⟨_, q, _⟩ | ⟨_, h⟩
    · cases q
    · exact R.pn j h
/-- an own list is changed -/
theorem Rp.change {ds es : List D} {a : Addr} {xs ys : List V} (R : Rp W n ρ σ H) (hi : ρ[i]? = some (.own ds)) (hs : σ[i]? = some (some (.ref a))) (ha : H a = some (.lst xs)) (r : RepAll W.K (off (Out W ρ σ) H) ys es) :
    Rp W n (ρ.set i (.own es)) σ (upd H a (.lst ys)) := by
  have oa : Out W ρ σ a := .inr ⟨i, ds, hi, hs⟩
  obtain ⟨a', xs', g1, g2, g3, g4, g5⟩ := R.own i ds hi
  rw [hs] at g1
  cases g1
  have owns' : ∀ b, owns (ρ.set i (.own es)) σ b ↔ owns ρ σ b := fun b => by
    constructor
    · rintro ⟨j, fs, h1, h2⟩
      rcases set_get h1 with ⟨rfl, q, _⟩ | ⟨hj, h1⟩
      · exact ⟨j, ds, hi, h2⟩
      · exact ⟨j, fs, h1, h2⟩
    · rintro ⟨j, fs, h1, h2⟩
      by_cases e : j = i
      · subst e
        exact ⟨j, es, by rw [List.getElem?_set_self]; exact (List.getElem?_eq_some_iff.mp hi).1, h2⟩
      · exact ⟨j, fs, by rw [List.getElem?_set_ne (Ne.symm e)]; exact h1, h2⟩
  have oeq : Out W (ρ.set i (.own es)) σ = Out W ρ σ := funext fun b => propext ⟨fun z => z.elim .inl fun z => .inr ((owns' b).mp z), fun z => z.elim .inl fun z => .inr ((owns' b).mpr z)⟩
  have sm : Same (off (Out W ρ σ) H) (off (Out W ρ σ) (upd H a (.lst ys))) := off_sub (fun _ _ _ h => h) fun b o hb hn => by
    have nb : b ≠ a := fun z => hn (by rw [z]; exact oa)
    rw [upd_ne nb]
    exact hb
  refine ⟨R.wc, R.wp, R.sp, R.cp, fun b hb => ?_, fun b o h1 h2 => ?_, ?_, by rw [List.length_set, R.len], fun j d h => ?_, fun j fs h => ?_, fun j k fs hs' b h1 h2 h3 h4 => ?_, fun j h => ?_⟩
  · have nb : b ≠ a := fun z => g3 (by rw [← z]; exact hb)
    rw [upd_ne nb]
    exact R.sb b hb
  · have : b ≠ a := fun z => by
      rw [z, g2] at h1
      cases h1
    rw [upd_ne this]
    exact R.ex b o h1 h2
  · obtain ⟨t, q, e1, e2⟩ := R.pen
    have : W.p ≠ a := fun z => g3 (z ▸ R.sp)
    exact ⟨t, q, by rw [upd_ne this]; exact e1, e2⟩
  · rw [oeq]
    rcases set_get h with ⟨_, q, _⟩ | ⟨_, h⟩
    · cases q
    · obtain ⟨w, h1, h2⟩ := R.dat j d h
      exact ⟨w, h1, h2.mono sm⟩
  · rw [oeq]
    rcases set_get h with ⟨rfl, q, hl⟩ | ⟨hj, h⟩
    · cases q
      exact ⟨a, ys, hs, g2, g3, upd_same, r.mono sm⟩
    · obtain ⟨b, zs, h1, h2, h3, h4, h5⟩ := R.own j fs h
      have : b ≠ a := fun z => by
        rw [z] at h1
        exact hj (R.inj j i fs ds a h hi h1 hs)
      exact ⟨b, zs, h1, h2, h3, by rw [upd_ne this]; exact h4, h5.mono sm⟩
  · rcases set_get h1 with ⟨ej, _, _⟩ | ⟨hj, g1⟩
    · rcases set_get h2 with ⟨ek, _, _⟩ | ⟨hk, g2⟩
      · rw [ej, ek]
      · rw [ej] at h3 ⊢
        exact R.inj i k ds hs' b hi g2 h3 h4
    · rcases set_get h2 with ⟨ek, _, _⟩ | ⟨hk, g2⟩
      · rw [ek] at h4 ⊢
        exact R.inj j i fs ds b g1 hi h3 h4
      · exact R.inj j k fs hs' b g1 g2 h3 h4
  · rcases set_get h with ⟨_, q, _⟩ | ⟨_, h⟩
    · cases q
    · exact R.pn j h
end

/-! ### statements -/
def aNext : AS := fun A ρ n => A.nx ρ n
def aSeq (t u : AS) : AS := fun A ρ n => t { A with nx := u A } ρ n
def aRet (ae : AE) : AS := fun A ρ n => ae ρ n fun av n1 => match av with
  | .st d => A.rt (.st d) n1
  | .fr ds => A.rt (.fr ds) n1
  | .ow ds => A.rt (.fr ds) n1
  | .pn => False
def aRetN : AS := fun A _ n => A.rt (.st .non) n
def aIfS (c : AT) (t u : AS) : AS := fun A ρ n => c ρ n fun b n1 => br b (t A ρ n1) (u A ρ n1)
def aBreak : AS := fun A ρ n => A.bk ρ n
def aCont : AS := fun A ρ n => A.ct ρ n
def aDrop (ae : AE) : AS := fun A ρ n => ae ρ n fun _ n1 => A.nx ρ n1
def aSet (i : Nat) (ae : AE) : AS := fun A ρ n => ae ρ n fun av n1 => match av with
  | .st d => A.nx (ρ.set i (.dat d)) n1
  | .fr ds => A.nx (ρ.set i (.dat (.lst ds))) n1
  | .pn => A.nx (ρ.set i .pen) n1
  | .ow _ => False
def aSetO (i : Nat) (ae : AE) : AS := fun A ρ n => ae ρ n fun av n1 => match av with
  | .fr ds => A.nx (ρ.set i (.own ds)) n1
  | _ => False
def aFrz (i : Nat) (t : AS) : AS := fun A ρ n => match ρ[i]? with
  | some (.own ds) => t A (ρ.set i (.dat (.lst ds))) n
  | _ => t A ρ n
def aPar (i j : Nat) (aa : AA) : AS := fun A ρ n => aa ρ n fun avs n1 => match avs with
  | [.st d, .st e] => A.nx ((ρ.set i (.dat d)).set j (.dat e)) n1
  | [.fr ds, .st e] => A.nx ((ρ.set i (.dat (.lst ds))).set j (.dat e)) n1
  | [.st d, .fr es] => A.nx ((ρ.set i (.dat d)).set j (.dat (.lst es))) n1
  | [.fr ds, .fr es] => A.nx ((ρ.set i (.dat (.lst ds))).set j (.dat (.lst es))) n1
  | _ => False
/-- the data of a value that may be kept -/
def stOne (a : AV) : Option D := match a with
  | .st d => some d
  | .fr ds => some (.lst ds)
  | _ => none
theorem stOne_rep {W : Wd} {ρ : Env} {σ : L2.St} {H0 H : Hp} {v : V} {a : AV} {d : D} (r : RepAV W ρ σ H0 H v a) (e : stOne a = some d) : Rep W.K (off (Out W ρ σ) H) v d := by
  cases a with
  | st d' =>
    cases e
    exact r
  | fr ds =>
    cases e
    exact RepAV.stab r
  | ow _ => cases e
  | pn => cases e
/-- xs.append(e), xs an own list -/
def aApp (i : Nat) (ae : AE) : AS := fun A ρ n => match ρ[i]? with
  | some (.own ds) => ae ρ n fun av n1 => match stOne av with
    | some d => ds.length < 100000 ∧ A.nx (ρ.set i (.own (ds ++ [d]))) n1
    | none => False
  | _ => False
/-- xs[k] = e, xs an own list -/
def aSto (i : Nat) (ae ak : AE) : AS := fun A ρ n => match ρ[i]? with
  | some (.own ds) => ae ρ n fun av n1 => ak ρ n1 fun ak n2 => match stOne av, ak.d with
    | some d, .int k => match ixN ds.length k with
      | some j => A.nx (ρ.set i (.own (ds.set j d))) n2
      | none => False
    | _, _ => False
  | _ => False
section
variable {W : Wd} {A : AEnds} {D' : Ends} {n : Nat} {H : Hp} {v : V}
theorem ret_st {ρ : Env} {σ : L2.St} {d : D} (R : Rp W n ρ σ H) (r : Rep W.K (off (Out W ρ σ) H) v d) : Ret W n H v (.st d) :=
  ⟨R.ex, R.pen, r.mono (off_sub (fun _ _ _ h z => h (.inl z)) fun _ _ h _ => h)⟩
end
section
variable {X : Cx} {e c : Expr} {st : Stmt} {sts rest a b : List Stmt} {ae ak : AE} {aa : AA} {ac : AT} {t u : AS} {pos p : Pos}
theorem as_nil : ASsx X [] aNext := pss_nil.imp fun D σ H ⟨W, n, ρ, A, hK, R, h, l⟩ => l.nx ρ n σ H R h
theorem as_cons (h1 : ASx X st t) (h2 : ASsx X rest u) : ASsx X (st :: rest) (aSeq t u) := by
  refine (pss_cons h1 h2).imp fun D σ H ⟨W, n, ρ, A, hK, R, h, l⟩ => ?_
  exact ⟨W, n, ρ, _, hK, R, h, ⟨fun ρ' n' σ' H' R' h' => ⟨W, n', ρ', A, hK, R', h', l⟩, l.bk, l.ct, l.rt⟩⟩
theorem as_one (h1 : ASx X st t) : ASsx X [st] t := pss_one h1
theorem as_pass : ASx X (.Pass pos) aNext := ps_pass.imp fun D σ H ⟨W, n, ρ, A, hK, R, h, l⟩ => l.nx ρ n σ H R h
theorem as_break : ASx X (.Break pos) aBreak := ps_break.imp fun D σ H ⟨W, n, ρ, A, hK, R, h, l⟩ => l.bk ρ n σ H R h
theorem as_cont : ASx X (.Continue pos) aCont := ps_continue.imp fun D σ H ⟨W, n, ρ, A, hK, R, h, l⟩ => l.ct ρ n σ H R h
theorem as_frz (i : Nat) (h : ASsx X sts t) : ASsx X sts (aFrz i t) := by
  refine h.imp fun D σ H ⟨W, n, ρ, A, hK, R, h, l⟩ => ?_
  unfold aFrz at h
  split at h
  · next ds hd => exact ⟨W, n, _, A, hK, R.freeze hd, h, l⟩
  · exact ⟨W, n, ρ, A, hK, R, h, l⟩
theorem as_ret (he : AEx X e ae) : ASx X (.Return (some e) pos) (aRet ae) := by
  refine (ps_ret he).imp fun D σ H ⟨W, n, ρ, A, hK, R, h, l⟩ => ?_
  refine ⟨W, n, ρ, _, hK, R, h, fun v H1 av n1 e1 R1 r q => ?_⟩
  try dsimp only at q
  split at q
  · next d => exact l.rt v H1 _ n1 (ret_st R1 r) q
  · next ds =>
    obtain ⟨a, xs, rfl, h1, h2, h3, h4⟩ := r
    have hb : W.B a = none := by
      cases q : W.B a with
      | none => rfl
      | some o =>
        rw [R.ex a o q (R.ne_p h1)] at h1
        cases h1
    have z : Ret W n1 H1 (.ref a) (.fr ds) := ⟨R1.ex, R1.pen, ⟨a, xs, rfl, hb, fun z => h2 (.inl z), h3, h4.mono (off_sub (fun b _ _ hn z => hn (z.elim (fun z => .inl (.inl z)) .inr)) fun _ _ h _ => h)⟩⟩
    exact l.rt _ H1 _ n1 z q
  · next ds =>
    obtain ⟨a, xs, rfl, ⟨hb, hs, ho⟩, h3, h4⟩ := r
    have z : Ret W n1 H1 (.ref a) (.fr ds) := ⟨R1.ex, R1.pen, ⟨a, xs, rfl, hb, hs, h3, h4.mono (off_sub (fun b _ _ hn z => hn (z.elim .inl fun w => by rw [w]; exact ho)) fun _ _ h _ => h)⟩⟩
    exact l.rt _ H1 _ n1 z q
  · exact q.elim
theorem as_retN : ASx X (.Return none pos) aRetN := ps_retN.imp fun D σ H ⟨W, n, ρ, A, hK, R, h, l⟩ => l.rt _ H _ n (show Ret W n H .non (.st .non) from ⟨R.ex, R.pen, Rep.non⟩) h
theorem as_if (hc : ATx X c ac) (ha : ASsx X a t) (hb : ASsx X b u) : ASx X (.If c a b pos) (aIfS ac t u) := by
  refine (ps_if hc ha hb).imp fun D σ H ⟨W, n, ρ, A, hK, R, h, l⟩ => ?_
  refine ⟨W, n, ρ, _, hK, R, h, fun b H1 n1 e1 R1 q => ?_⟩
  cases b with
  | true => exact ⟨W, n1, ρ, A, hK, R1, br_t q, l⟩
  | false => exact ⟨W, n1, ρ, A, hK, R1, br_f q, l⟩
theorem as_drop (he : AEx X e ae) (hs : swapsWith e none pos.line X.env = pure false := by rfl) : ASx X (.Expr e pos) (aDrop ae) := by
  refine (ps_expr he hs).imp fun D σ H ⟨W, n, ρ, A, hK, R, h, l⟩ => ?_
  exact ⟨W, n, ρ, _, hK, R, h, fun v H1 av n1 e1 R1 r q => l.nx ρ n1 σ H1 R1 q⟩
theorem sim_set {K : PySem.W.Frag} {i : Nat} : ∀ D σ H, upS K (aSet i ae) D σ H → tAsg (upE K ae) (gName i) D σ H := by
  rintro D σ H ⟨W, n, ρ, A, hK, R, h, l⟩
  refine ⟨W, n, ρ, _, hK, R, h, fun v H1 av n1 e1 R1 r q => ?_⟩
  try dsimp only at q
  split at q
  · next d => exact l.nx _ n1 _ H1 (R1.setDat r) q
  · next ds => exact l.nx _ n1 _ H1 (R1.setDat r.stab) q
  · next =>
    cases r
    exact l.nx _ n1 _ H1 R1.setPen q
  · exact q.elim
theorem sim_setO {K : PySem.W.Frag} {i : Nat} : ∀ D σ H, upS K (aSetO i ae) D σ H → tAsg (upE K ae) (gName i) D σ H := by
  rintro D σ H ⟨W, n, ρ, A, hK, R, h, l⟩
  refine ⟨W, n, ρ, _, hK, R, h, fun v H1 av n1 e1 R1 r q => ?_⟩
  try dsimp only at q
  split at q
  · next ds => exact l.nx _ n1 _ H1 (R.setOwn e1 R1 r) q
  · exact q.elim
section
variable {i : Nat} {x : Str} {pos' : Pos}
theorem as_set (hN : X.N.Nodup) (hi : X.N[i]? = some x) (hx : Loc X.env.scope x) (he : AEx X e ae) (hs : swapsWith e (some (.Name x pos')) pos.line X.env = pure false := by rfl) (hf : X.fn x = true ∨ X.env.scope.names.lookup x = some .local := by first | exact .inl rfl | exact .inr rfl | assumption) :
    ASx X (.Assign [.Name x pos'] e pos) (aSet i ae) := (ps_set hN hi hx he hs hf).imp sim_set
theorem as_setO (hN : X.N.Nodup) (hi : X.N[i]? = some x) (hx : Loc X.env.scope x) (he : AEx X e ae) (hs : swapsWith e (some (.Name x pos')) pos.line X.env = pure false := by rfl) (hf : X.fn x = true ∨ X.env.scope.names.lookup x = some .local := by first | exact .inl rfl | exact .inr rfl | assumption) :
    ASx X (.Assign [.Name x pos'] e pos) (aSetO i ae) := (ps_set hN hi hx he hs hf).imp sim_setO
end
theorem as_par {i j : Nat} {x y : Str} {a b : Expr} {px py pt : Pos} {kt k2 pt2} (hc : X.calm = true) (hN : X.N.Nodup) (hi : X.N[i]? = some x) (hj : X.N[j]? = some y) (hij : i ≠ j)
    (hx : X.env.scope.names.lookup x = some .local) (hy : X.env.scope.names.lookup y = some .local) (ha : AAx X [a, b] aa)
    (hw : swappedStores [.Tuple [.Name x px, .Name y py] kt pt] (.Tuple [a, b] k2 pt2) X.env = pure (some [x, y]))
    (hs : swapsWithSole [.Tuple [.Name x px, .Name y py] kt pt] (.Tuple [a, b] k2 pt2) pos.line X.env = pure false := by rfl) :
    ASx X (.Assign [.Tuple [.Name x px, .Name y py] kt pt] (.Tuple [a, b] k2 pt2) pos) (aPar i j aa) := by
  refine (ps_par hc hN hi hj hij hx hy ha hw hs).imp fun D σ H ⟨W, n, ρ, A, hK, R, h, l⟩ => ?_
  refine ⟨W, n, ρ, _, hK, R, h, fun vs H1 avs n1 e1 R1 r q => ?_⟩
  have fin : ∀ {v w : V} {d e : Ab.D}, Rep W.K (off (Out W ρ σ) H1) v d → Rep W.K (off (Out W ρ σ) H1) w e → A.nx ((ρ.set i (.dat d)).set j (.dat e)) n1 → D.nx ((σ.set i (some v)).set j (some w)) H1 := fun {v w d e} r1 r2 q => by
    have R2 : Rp W n1 (ρ.set i (.dat d)) (σ.set i (some v)) H1 := R1.setDat r1
    have sub : Same (off (Out W ρ σ) H1) (off (Out W (ρ.set i (.dat d)) (σ.set i (some v))) H1) :=
      off_sub (fun a _ _ h q => h (q.elim .inl fun z => .inr (owns_dat (fun _ h => by cases h) z))) fun _ _ h _ => h
    exact l.nx _ n1 _ H1 (R2.setDat (r2.mono sub)) q
  try dsimp only at q
  split at q
  · next d e =>
    obtain ⟨v, w, rfl, r1, r2⟩ := r.two
    exact ⟨v, w, rfl, fin r1 r2 q⟩
  · next d e =>
    obtain ⟨v, w, rfl, r1, r2⟩ := r.two
    exact ⟨v, w, rfl, fin r1.stab r2 q⟩
  · next d e =>
    obtain ⟨v, w, rfl, r1, r2⟩ := r.two
    exact ⟨v, w, rfl, fin r1 r2.stab q⟩
  · next d e =>
    obtain ⟨v, w, rfl, r1, r2⟩ := r.two
    exact ⟨v, w, rfl, fin r1.stab r2.stab q⟩
  · exact q.elim
theorem as_app {i : Nat} {x : Str} {px pa pc : Pos} (hN : X.N[i]? = some x) (hv : Vis X.env.scope x) (he : AEx X e ae) (hd : (x == ("__debug__" : Str)) = false := by decide) (hcd : (x == ("__classdict__" : Str)) = false := by decide)
    (hst : starEach [e] X.env = (false, eval e X.env) :: starEach [] X.env := by rfl)
    (hbase : attributeBase (.Name x px) "append" X.env (eval (.Name x px) X.env) = eval (.Name x px) X.env := by rfl)
    (hfew : ((backTo pc (starEach [e] X.env)).all (fun x => !x.1) && (backToKw pc (keywordEach [] X.env)).all (fun x => x.1.isSome)
      && decide ([e].length + ([] : List Keyword).length + (if ([] : List Keyword).isEmpty then 0 else 1) < 30)) = true := by rfl)
    (hline : (pa.endLine == pc.line) = true := by rfl) (hplain : (backTo pc (starEach [] X.env)).any (·.1) = false := by rfl)
    (hs : swapsWith (.Call (.Attribute (.Name x px) "append" pa) [e] [] pc) none pos.line X.env = pure false := by rfl) : ASx X (.Expr (.Call (.Attribute (.Name x px) "append" pa) [e] [] pc) pos) (aApp i ae) := by
  have hpe : PE X (.Call (.Attribute (.Name x px) "append" pa) [e] [] pc) (tBM X.K "list" rAppend (tVar i) (tCons (upE X.K ae) tNil)) :=
    pe_bm PySem.F.plainAttrs_list PySem.F.slot_list_append PySem.F.type_list_append mt_append (pe_var hN hv hd hcd) (pa_cons he pa_nil hst) hbase hfew hline hst hplain
  refine (ps_expr hpe hs).imp fun D σ H ⟨W, n, ρ, A, hK, R, h, l⟩ => ?_
  unfold aApp at h
  split at h
  · next ds hi =>
    obtain ⟨a, xs, h1, h2, h3, h4, h5⟩ := R.own i ds hi
    refine ⟨.ref a, h1, .inl ⟨rfl, xs, .inl (.inl h4)⟩, W, n, ρ, _, hK, R, h, fun v H1 av n1 e1 R1 r q => ?_⟩
    try dsimp only at q
    split at q
    · next d hd =>
      obtain ⟨a', xs', g1, g2, g3, g4, g5⟩ := R1.own i ds hi
      rw [h1] at g1
      cases g1
      refine ⟨a, xs', v, rfl, rfl, g4, by rw [g5.length]; exact sz5' q.1, l.nx _ n1 _ _ (R1.change hi h1 g4 (g5.append (.cons (stOne_rep r hd) .nil))) q.2⟩
    · exact q.elim
  · exact h.elim
theorem as_sto {i : Nat} {x : Str} {px pq : Pos} {k : Expr} (hN : X.N[i]? = some x) (hv : Vis X.env.scope x) (he : AEx X e ae) (hk : AEx X k ak) (hd : (x == ("__debug__" : Str)) = false := by decide) (hcd : (x == ("__classdict__" : Str)) = false := by decide)
    (ha : ∀ v, assign (.Subscript (.Name x px) k pq) X.env v = (do
      let ov ← holding [v] (eval (.Name x px) X.env)
      let iv ← holding [v, ov] (eval k X.env)
      standAt pq
      holding [v, ov, iv] (setItem ov iv v)
      release [v, ov, iv] []) := by intro _; rfl)
    (hs : swapsWithSole [.Subscript (.Name x px) k pq] e pos.line X.env = pure false := by rfl) (hw : swappedStores [.Subscript (.Name x px) k pq] e X.env = pure none := by rfl)
    (h1 : (assignEach [.Subscript (.Name x px) k pq] X.env).map (·.2) = [assign (.Subscript (.Name x px) k pq) X.env] := by rfl) : ASx X (.Assign [.Subscript (.Name x px) k pq] e pos) (aSto i ae ak) := by
  refine (ps_asg he (pg_sub (pe_var hN hv hd hcd) hk set_list ha) hs hw h1).imp fun D σ H ⟨W, n, ρ, A, hK, R, h, l⟩ => ?_
  unfold aSto at h
  split at h
  · next ds hi =>
    refine ⟨W, n, ρ, _, hK, R, h, fun v H1 av n1 e1 R1 r q => ?_⟩
    obtain ⟨a, xs, h1, h2, h3, h4, h5⟩ := R1.own i ds hi
    refine ⟨.ref a, h1, W, n1, ρ, _, hK, R1, q, fun u H2 au n2 e2 R2 r2 q => ?_⟩
    try dsimp only at q
    split at q
    · next d kk hd hkk =>
      split at q
      · next j hj =>
        obtain ⟨a', xs', g1, g2, g3, g4, g5⟩ := R2.own i ds hi
        rw [h1] at g1
        cases g1
        refine ⟨a, xs', kk, j, rfl, r2.int_of hkk, g4, by rw [g5.length]; exact hj, l.nx _ n2 _ _ (R2.change hi h1 g4 (g5.set j ((stOne_rep r hd).mono (R1.offs e2)))) q⟩
      · exact q.elim
    · exact q.elim
  · exact h.elim
end
end Ab
set_option Elab.async false
set_option linter.all false
set_option maxRecDepth 100000
set_option maxHeartbeats 4000000
/-! AbE: targets, what is walked, loops, comprehensions. -/
namespace Ab
open PySem PySem.Spec PyProof.Rows L2

/-! ### slots forgotten -/
def wipeA (ρ : Env) : List Nat → Env
  | [] => ρ
  | v :: vs => (wipeA ρ vs).set v .un
def noOwn (ρ : Env) : List Nat → Bool
  | [] => true
  | v :: vs => (match ρ[v]? with
    | some (.own _) => false
    | _ => true) && noOwn ρ vs
theorem wipe_get (σ : L2.St) (j : Nat) : ∀ vs : List Nat, j ∉ vs → (wipe σ vs)[j]? = σ[j]?
  | [], _ => rfl
  | v :: vs, h => by
    simp only [List.mem_cons, not_or] at h
    unfold wipe
    rw [List.getElem?_set_ne (fun e => h.1 e.symm)]
    exact wipe_get σ j vs h.2
theorem wipeA_get (ρ : Env) (j : Nat) : ∀ vs : List Nat, j ∉ vs → (wipeA ρ vs)[j]? = ρ[j]?
  | [], _ => rfl
  | v :: vs, h => by
    simp only [List.mem_cons, not_or] at h
    unfold wipeA
    rw [List.getElem?_set_ne (fun e => h.1 e.symm)]
    exact wipeA_get ρ j vs h.2
theorem wipeA_length (ρ : Env) : ∀ vs : List Nat, (wipeA ρ vs).length = ρ.length
  | [] => rfl
  | v :: vs => by unfold wipeA; rw [List.length_set, wipeA_length ρ vs]
theorem wipeA_own {ρ : Env} {j : Nat} {ds : List D} : ∀ {vs : List Nat}, (wipeA ρ vs)[j]? = some (.own ds) → ρ[j]? = some (.own ds) ∧ j ∉ vs
  | [], h => ⟨h, by simp⟩
  | v :: vs, h => by
    unfold wipeA at h
    rcases set_get h with ⟨_, e, _⟩ | ⟨hj, h⟩
    · cases e
    · obtain ⟨h1, h2⟩ := wipeA_own h
      exact ⟨h1, by simp only [List.mem_cons, not_or]; exact ⟨hj, h2⟩⟩
theorem noOwn_mem {ρ : Env} {j : Nat} {ds : List D} : ∀ {vs : List Nat}, noOwn ρ vs = true → ρ[j]? = some (.own ds) → j ∉ vs
  | [], _, _ => by simp
  | v :: vs, h, hj => by
    unfold noOwn at h
    rw [Bool.and_eq_true] at h
    simp only [List.mem_cons, not_or]
    refine ⟨fun e => ?_, noOwn_mem h.2 hj⟩
    subst e
    rw [hj] at h
    cases h.1
theorem wipe_nth (σ : L2.St) (j : Nat) : ∀ vs : List Nat, (wipe σ vs)[j]? = if j ∈ vs then (σ[j]?).map fun _ => none else σ[j]?
  | [] => by
    rw [if_neg (by simp)]
    rfl
  | v :: vs => by
    have ih := wipe_nth σ j vs
    unfold wipe
    by_cases e : v = j
    · subst e
      rw [if_pos (by simp)]
      by_cases hl : v < (wipe σ vs).length
      · rw [List.getElem?_set_self hl]
        have hl2 : v < σ.length := by rw [wipe_length] at hl; exact hl
        rw [List.getElem?_eq_getElem hl2]
        rfl
      · have hl2 : ¬ v < σ.length := by rw [wipe_length] at hl; exact hl
        rw [List.getElem?_eq_none (by rw [List.length_set]; omega), List.getElem?_eq_none (by omega)]
        rfl
    · rw [List.getElem?_set_ne e, ih]
      by_cases hm : j ∈ vs
      · rw [if_pos hm, if_pos (by simp [hm])]
      · rw [if_neg hm, if_neg (by simp only [List.mem_cons, not_or]; exact ⟨fun z => e z.symm, hm⟩)]
theorem wipeA_nth (σ : Env) (j : Nat) : ∀ vs : List Nat, (wipeA σ vs)[j]? = if j ∈ vs then (σ[j]?).map fun _ => Sl.un else σ[j]?
  | [] => by
    rw [if_neg (by simp)]
    rfl
  | v :: vs => by
    have ih := wipeA_nth σ j vs
    unfold wipeA
    by_cases e : v = j
    · subst e
      rw [if_pos (by simp)]
      by_cases hl : v < (wipeA σ vs).length
      · rw [List.getElem?_set_self hl]
        have hl2 : v < σ.length := by rw [wipeA_length] at hl; exact hl
        rw [List.getElem?_eq_getElem hl2]
        rfl
      · have hl2 : ¬ v < σ.length := by rw [wipeA_length] at hl; exact hl
        rw [List.getElem?_eq_none (by rw [List.length_set]; omega), List.getElem?_eq_none (by omega)]
        rfl
    · rw [List.getElem?_set_ne e, ih]
      by_cases hm : j ∈ vs
      · rw [if_pos hm, if_pos (by simp [hm])]
      · rw [if_neg hm, if_neg (by simp only [List.mem_cons, not_or]; exact ⟨fun z => e z.symm, hm⟩)]
theorem wipe_set {σ : L2.St} {vs : List Nat} {i : Nat} {x : Option V} (h : i ∈ vs) : wipe (σ.set i x) vs = wipe σ vs := by
  apply List.ext_getElem?
  intro j
  rw [wipe_nth, wipe_nth]
  by_cases hm : j ∈ vs
  · rw [if_pos hm, if_pos hm]
    by_cases e : i = j
    · subst e
      by_cases hl : i < σ.length
      · rw [List.getElem?_set_self hl, List.getElem?_eq_getElem hl]
        rfl
      · rw [List.getElem?_eq_none (by rw [List.length_set]; omega), List.getElem?_eq_none (by omega)]
    · rw [List.getElem?_set_ne e]
  · rw [if_neg hm, if_neg hm, List.getElem?_set_ne (fun e => hm (by rw [← e]; exact h))]
theorem wipeA_set {σ : Env} {vs : List Nat} {i : Nat} {x : Sl} (h : i ∈ vs) : wipeA (σ.set i x) vs = wipeA σ vs := by
  apply List.ext_getElem?
  intro j
  rw [wipeA_nth, wipeA_nth]
  by_cases hm : j ∈ vs
  · rw [if_pos hm, if_pos hm]
    by_cases e : i = j
    · subst e
      by_cases hl : i < σ.length
      · rw [List.getElem?_set_self hl, List.getElem?_eq_getElem hl]
        rfl
      · rw [List.getElem?_eq_none (by rw [List.length_set]; omega), List.getElem?_eq_none (by omega)]
    · rw [List.getElem?_set_ne e]
  · rw [if_neg hm, if_neg hm, List.getElem?_set_ne (fun e => hm (by rw [← e]; exact h))]
section
variable {W : Wd} {n : Nat} {ρ ρ2 : Env} {σ σ2 : L2.St} {H : Hp}
theorem Rp.wipes (R : Rp W n ρ σ H) : ∀ vs : List Nat, Rp W n (wipeA ρ vs) (wipe σ vs) H
  | [] => R
  | v :: vs => (Rp.wipes R vs).wipe1
theorem out_wipe {vs : List Nat} (h : noOwn ρ vs = true) (a : Addr) : Out W (wipeA ρ vs) (wipe σ vs) a ↔ Out W ρ σ a := by
  constructor
  · rintro (z | ⟨j, ds, h1, h2⟩)
    · exact .inl z
    · obtain ⟨g1, g2⟩ := wipeA_own h1
      rw [wipe_get σ j vs g2] at h2
      exact .inr ⟨j, ds, g1, h2⟩
  · rintro (z | ⟨j, ds, h1, h2⟩)
    · exact .inl z
    · have g := noOwn_mem h h1
      exact .inr ⟨j, ds, by rw [wipeA_get ρ j vs g]; exact h1, by rw [wipe_get σ j vs g]; exact h2⟩
/-- what is off when slots of vs differ -/
theorem out_same {vs : List Nat} (e1 : wipeA ρ2 vs = wipeA ρ vs) (e2 : wipe σ2 vs = wipe σ vs) (h : noOwn ρ vs = true) {a : Addr} (ha : Out W ρ σ a) : Out W ρ2 σ2 a := by
  rcases ha with z | ⟨j, ds, h1, h2⟩
  · exact .inl z
  · have g := noOwn_mem h h1
    have q1 := congrArg (fun l => l[j]?) e1
    have q2 := congrArg (fun l => l[j]?) e2
    simp only [wipeA_get _ j vs g, wipe_get _ j vs g] at q1 q2
    exact .inr ⟨j, ds, by rw [q1]; exact h1, by rw [q2]; exact h2⟩
end

/-! ### targets -/
def upGv (K : PySem.W.Frag) (vs : List Nat) (ag : AG) : TG := fun v σ H Q => ∃ (W : Wd) (n : Nat) (ρ : Env) (d : D) (AQ : Env → Prop), W.K = K ∧ Rp W n ρ σ H ∧ Rep W.K (off (Out W ρ σ) H) v d ∧ ag d ρ AQ ∧
  ∀ ρ' σ', Rp W n ρ' σ' H → wipeA ρ' vs = wipeA ρ vs → wipe σ' vs = wipe σ vs → (∀ a, Out W ρ' σ' a → Out W ρ σ a) → AQ ρ' → Q σ' H
abbrev AGv (X : Cx) (vs : List Nat) (e : Expr) (ag : AG) : Prop := PG X e (upGv X.K vs ag)
abbrev AGs := List D → Env → (Env → Prop) → Prop
def upGs (K : PySem.W.Frag) (vs : List Nat) (ag : AGs) : TGs := fun xs σ H Q => ∃ (W : Wd) (n : Nat) (ρ : Env) (ds : List D) (AQ : Env → Prop), W.K = K ∧ Rp W n ρ σ H ∧ RepAll W.K (off (Out W ρ σ) H) xs ds ∧ ag ds ρ AQ ∧
  ∀ ρ' σ', Rp W n ρ' σ' H → wipeA ρ' vs = wipeA ρ vs → wipe σ' vs = wipe σ vs → (∀ a, Out W ρ' σ' a → Out W ρ σ a) → AQ ρ' → Q σ' H
theorem _root_.L2.PGs.imp {X : Cx} {es : List Expr} {t t' : TGs} (h : PGs X es t) (k : ∀ v σ H Q, t' v σ H Q → t v σ H Q) : PGs X es t' := ⟨fun pins s σ H v u Q I r q => h.run pins s σ H v u Q I r (k v σ H Q q)⟩
theorem PG.or {X : Cx} {e : Expr} {t t' : TG} (h : PG X e t) (h' : PG X e t') : PG X e (fun v σ H Q => t v σ H Q ∨ t' v σ H Q) := ⟨fun pins s σ H v u Q I r q => q.elim (h.run pins s σ H v u Q I r) (h'.run pins s σ H v u Q I r)⟩
def aGn (i : Nat) : AG := fun d ρ Q => Q (ρ.set i (.dat d))
def aGnil : AGs := fun ds ρ Q => ds = [] ∧ Q ρ
def aGcons (g : AG) (gs : AGs) : AGs := fun ds ρ Q => match ds with
  | d :: r => g d ρ fun ρ' => gs r ρ' Q
  | [] => False
def aGt (k : Nat) (gs : AGs) : AG := fun d ρ Q => match d with
  | .tup ds => ds.length = k ∧ gs ds ρ Q
  | .lst ds => ds.length = k ∧ gs ds ρ Q
  | _ => False
section
variable {X : Cx} {vs : List Nat} {pos : Pos} {e : Expr} {es : List Expr} {g : AG} {gs : AGs}
theorem ag_name {i : Nat} {x : Str} (hm : i ∈ vs) (hN : X.N.Nodup) (hi : X.N[i]? = some x) (hx : Loc X.env.scope x) (hf : X.fn x = true ∨ X.env.scope.names.lookup x = some .local := by first | exact .inl rfl | exact .inr rfl | assumption) : AGv X vs (.Name x pos) (aGn i) := by
  refine (pg_name hN hi hx hf).imp fun v σ H Q ⟨W, n, ρ, d, AQ, hK, R, r, h, k⟩ => ?_
  exact k _ _ (R.setDat r) (wipeA_set hm) (wipe_set hm) (fun a ha => ha.elim .inl fun z => .inr (owns_dat (fun _ h => by cases h) z)) h
theorem ags_nil : PGs X [] (upGs X.K vs aGnil) := by
  refine pgs_nil.imp fun v σ H Q ⟨W, n, ρ, ds, AQ, hK, R, r, h, k⟩ => ?_
  obtain ⟨rfl, h⟩ := h
  cases r
  exact ⟨rfl, k ρ σ R rfl rfl (fun _ h => h) h⟩
theorem ags_cons (h1 : AGv X vs e g) (h2 : PGs X es (upGs X.K vs gs)) (hs : (assignEach (e :: es) X.env).map (·.2) = assign e X.env :: (assignEach es X.env).map (·.2) := by rfl) : PGs X (e :: es) (upGs X.K vs (aGcons g gs)) := by
  refine (pgs_cons h1 h2 hs).imp fun v σ H Q ⟨W, n, ρ, ds, AQ, hK, R, r, h, k⟩ => ?_
  cases r with
  | nil => exact h.elim
  | @cons v vs' d ds rv rt =>
    refine ⟨v, vs', rfl, W, n, ρ, d, _, hK, R, rv, h, fun ρ' σ' R' e1 e2 o' q => ?_⟩
    refine ⟨W, n, ρ', ds, AQ, hK, R', rt.mono (off_sub (fun a _ _ hn z => hn (o' a z)) fun _ _ h _ => h), q, fun ρ2 σ2 R2 e3 e4 o2 q2 => ?_⟩
    exact k ρ2 σ2 R2 (e3.trans e1) (e4.trans e2) (fun a ha => o' a (o2 a ha)) q2
theorem ag_tup {k : Nat} {m : Nat} (hc : X.calm = true) (h : PGs X es (upGs X.K vs gs)) (hn : (assignEach es X.env).length = m := by rfl) (hst : (assignEach es X.env).findIdx? (·.1) = none := by rfl) : AGv X vs (.Tuple es k pos) (aGt m gs) := by
  refine (PG.or (pg_tup hc h hn hst) (pg_unl hc h hn hst)).imp fun v σ H Q ⟨W, n, ρ, d, AQ, hK, R, r, h, k⟩ => ?_
  cases r with
  | tup hs ha =>
    refine .inl ⟨_, _, rfl, ?_, ?_, W, n, ρ, _, AQ, hK, R, ha, h.2, k⟩
    · rw [hK] at hs
      exact sqt_mono off_le hs
    · rw [ha.length]
      exact h.1
  | lst hs ha =>
    refine .inr ⟨_, _, rfl, .inl (.inl (off_le _ _ hs)), ?_, W, n, ρ, _, AQ, hK, R, ha, h.2, k⟩
    rw [ha.length]
    exact h.1
  | _ => exact h.elim
end
def aAsg (ae : AE) (g : AG) : AS := fun A ρ n => ae ρ n fun av n1 => match stOne av with
  | some d => g d ρ fun ρ' => A.nx ρ' n1
  | none => False
section
variable {X : Cx} {e tg : Expr} {ae : AE} {g : AG} {pos : Pos} {vs : List Nat}
theorem as_asg (he : AEx X e ae) (hg : AGv X vs tg g) (hs : swapsWithSole [tg] e pos.line X.env = pure false := by rfl) (hw : swappedStores [tg] e X.env = pure none := by rfl)
    (h1 : (assignEach [tg] X.env).map (·.2) = [assign tg X.env] := by rfl) : ASx X (.Assign [tg] e pos) (aAsg ae g) := by
  refine (ps_asg he hg hs hw h1).imp fun D σ H ⟨W, n, ρ, A, hK, R, h, l⟩ => ?_
  refine ⟨W, n, ρ, _, hK, R, h, fun v H1 av n1 e1 R1 r q => ?_⟩
  try dsimp only at q
  split at q
  · next d hd => exact ⟨W, n1, ρ, d, _, hK, R1, stOne_rep r hd, q, fun ρ' σ' R' _ _ _ q' => l.nx ρ' n1 σ' H1 R' q'⟩
  · exact q.elim
end

/-! ### what is walked -/
/-- the heap without the own lists -/
noncomputable def base (ρ : Env) (σ : L2.St) (H : Hp) : Hp := off (owns ρ σ) H
def Has (B : Hp) (p : Addr) (H : Hp) : Prop := ∀ a o, B a = some o → a ≠ p → H a = some o
structure AWalk (K : PySem.W.Frag) (B : Hp) (p : Addr) (S : Addr → Prop) (J : It) (ds : List D) : Prop where
  go : ∀ i H, i < ds.length → Has B p H → J.go i H
  stop : ∀ H, Has B p H → J.stop ds.length H
  yld : ∀ i H x H', i < ds.length → Has B p H → J.yld i H x H' → ∃ d, ds[i]? = some d ∧ ((H' = H ∧ Rep K (off S B) x d) ∨
    ∃ T xs es, x = .ref T ∧ H T = none ∧ H' = upd H T (.tup xs) ∧ d = .tup es ∧ RepAll K (off S B) xs es)
def upI (K : PySem.W.Frag) (ai : AI) : TI := fun σ H R => ∃ (W : Wd) (n : Nat) (ρ : Env) (AR : List D → Nat → Prop), W.K = K ∧ Rp W n ρ σ H ∧ ai ρ n AR ∧
  ∀ J ds H' n', Xt W.p H H' → Rp W n' ρ σ H' → AWalk K (base ρ σ H') W.p W.S J ds → AR ds n' → R J H'
theorem _root_.L2.PI.imp {X : Cx} {tg it : Expr} {t t' : TI} (h : PI X tg it t) (k : ∀ σ H R, t' σ H R → t σ H R) : PI X tg it t' := ⟨fun pins s σ H R I q => h.run pins s σ H R I (k σ H R q)⟩
theorem PI.or {X : Cx} {tg it : Expr} {t t' : TI} (h : PI X tg it t) (h' : PI X tg it t') : PI X tg it (fun σ H R => t σ H R ∨ t' σ H R) := ⟨fun pins s σ H R I q => q.elim (h.run pins s σ H R I) (h'.run pins s σ H R I)⟩
/-- a value that is a list, a tuple, whichever: the walk is told behind its evaluation -/
def iSeq (K : PySem.W.Frag) (tl : TE) : TI := fun σ H R => tl σ H fun x H1 => ∃ a, x = .ref a ∧ (((∃ xs, SqL K H1 a xs) ∧ R (Itl K a) H1) ∨ ((∃ xs, SqT K H1 a xs) ∧ R (Itt K a) H1))
def aIt (ae : AE) : AI := fun ρ n R => ae ρ n fun av n1 => match av with
  | .st (.lst ds) => R ds n1
  | .st (.tup ds) => R ds n1
  | .fr ds => R ds n1
  | _ => False
def aRng1 (ae : AE) : AI := fun ρ n R => ae ρ n fun av n1 => match av.d with
  | .int j => j ≤ 100000 ∧ -100000 ≤ j ∧ R ((List.range j.toNat).map fun (i : Nat) => D.int (0 + (i : Int))) n1
  | _ => False
section
variable {X : Cx} {tg e : Expr} {ae : AE}
theorem pi_seq {l : Expr} {tl : TE} (hl : PE X l tl) : PI X tg l (iSeq X.K tl) := by
  refine ⟨fun pins s σ H R I h => ?_⟩
  refine thn (hl.run pins s σ H _ I h) fun v s1 ⟨x, H1, I1, r1, q1⟩ => ?_
  obtain ⟨a, e, q⟩ := q1
  subst e
  cases r1
  have one : ∀ b, b ∈ [s1.heap.objs.size] → FpOk X pins H1 b := fun b hb => by
    have e : b = s1.heap.objs.size := by simpa using hb
    subst e
    exact I1.fpOk (Nat.le_refl _) (I1.hok.fresh (Nat.le_refl _))
  rcases q with ⟨⟨xs, hq⟩, q⟩ | ⟨⟨xs, hq⟩, q⟩
  · obtain ⟨its, rv, p, hz⟩ := I1.list hq
    refine wpAny_pyIter_list p.isList ?_
    exact ⟨s1.heap.objs.size, [s1.heap.objs.size], _, _, H1, rfl, I1.kept (t' := s1.toks) fun b o e => Heap.get?_push_of_some _ e, turn_list a _, ⟨_, Heap.get?_push_size _ rfl, rfl, rfl⟩, one, q⟩
  · obtain ⟨its, rv, p, hz⟩ := I1.tuple hq
    refine wpAny_pyIter_tuple (show s1.heap.IsTuple a its.toArray from p) ?_
    exact ⟨s1.heap.objs.size, [s1.heap.objs.size], _, _, H1, rfl, I1.kept (t' := s1.toks) fun b o e => Heap.get?_push_of_some _ e, turn_tuple a _, ⟨_, Heap.get?_push_size _ rfl, rfl, rfl⟩, one, q⟩
theorem walkL {K : PySem.W.Frag} {B : Hp} {p a : Addr} {S : Addr → Prop} {xs : List V} {ds : List D} (ha : B a = some (.lst xs)) (hp : a ≠ p) (r : RepAll K (off S B) xs ds) : AWalk K B p S (Itl K a) ds := by
  refine ⟨fun i H hi hb => ?_, fun H hb => ?_, fun i H x H' hi hb y => ?_⟩
  · have hi' : i < xs.length := by rw [r.length]; exact hi
    exact ⟨xs, xs[i], .inl (.inl (hb a _ ha hp)), by simp [hi']⟩
  · exact ⟨xs, .inl (.inl (hb a _ ha hp)), by rw [r.length]; exact Nat.le_refl _⟩
  · obtain ⟨e, y⟩ := y
    have hx := y xs (.inl (.inl (hb a _ ha hp)))
    obtain ⟨d, h1, h2⟩ := r.getV hx
    exact ⟨d, h1, .inl ⟨e, h2⟩⟩
theorem sqt_has {K : PySem.W.Frag} {B H : Hp} {p a : Addr} {S : Addr → Prop} {xs : List V} (hS : S p) (h : SqT K (off S B) a xs) (hb : Has B p H) : SqT K H a xs :=
  sqt_mono (fun b o e => by
    obtain ⟨h1, h2⟩ := off_some e
    exact hb b o h2 fun z => h1 (z ▸ hS)) h
theorem walkT {K : PySem.W.Frag} {B : Hp} {p a : Addr} {S : Addr → Prop} {xs : List V} {ds : List D} (hS : S p) (ha : SqT K (off S B) a xs) (r : RepAll K (off S B) xs ds) : AWalk K B p S (Itt K a) ds := by
  refine ⟨fun i H hi hb => ?_, fun H hb => ?_, fun i H x H' hi hb y => ?_⟩
  · have hi' : i < xs.length := by rw [r.length]; exact hi
    exact ⟨xs, xs[i], sqt_has hS ha hb, by simp [hi']⟩
  · exact ⟨xs, sqt_has hS ha hb, by rw [r.length]; exact Nat.le_refl _⟩
  · obtain ⟨e, y⟩ := y
    have hx := y xs (sqt_has hS ha hb)
    obtain ⟨d, h1, h2⟩ := r.getV hx
    exact ⟨d, h1, .inl ⟨e, h2⟩⟩
theorem off_base {W : Wd} {ρ : Env} {σ : L2.St} {H : Hp} : Same (off (Out W ρ σ) H) (off W.S (base ρ σ H)) := fun a o e => by
  obtain ⟨h1, h2⟩ := off_some e
  rw [off_no fun z => h1 (.inl z)]
  unfold base
  rw [off_no fun z => h1 (.inr z)]
  exact h2
theorem ai_seq (he : AEx X e ae) : PI X tg e (upI X.K (aIt ae)) := by
  refine (pi_seq he).imp fun σ H Q ⟨W, n, ρ, AR, hK, R, h, k⟩ => ?_
  refine ⟨W, n, ρ, _, hK, R, h, fun v H1 av n1 e1 R1 r q => ?_⟩
  try dsimp only at q
  split at q
  · next ds =>
    cases r with
    | lst h1 h2 =>
      obtain ⟨g1, g2⟩ := off_some h1
      refine ⟨_, rfl, .inl ⟨⟨_, .inl (.inl g2)⟩, k _ ds H1 n1 e1 R1 (walkL ?_ (fun z => g1 (z ▸ R1.out_p)) (by rw [← hK]; exact h2.mono off_base)) q⟩⟩
      unfold base
      rw [off_no fun z => g1 (.inr z)]
      exact g2
  · next ds =>
    cases r with
    | tup h1 h2 => exact ⟨_, rfl, .inr ⟨⟨_, by rw [← hK]; exact sqt_mono off_le h1⟩, k _ ds H1 n1 e1 R1 (walkT R1.sp (by rw [← hK]; exact sqt_mono off_base h1) (by rw [← hK]; exact h2.mono off_base)) q⟩⟩
  · next ds =>
    obtain ⟨a, xs, rfl, h1, h2, h3, h4⟩ := r
    refine ⟨_, rfl, .inl ⟨⟨_, .inl (.inl h3)⟩, k _ ds H1 n1 e1 R1 (walkL ?_ (fun z => h2 (z ▸ R1.out_p)) (by rw [← hK]; exact (h4.mono off_or).mono off_base)) q⟩⟩
    unfold base
    rw [off_no fun z => h2 (.inr z)]
    exact h3
  · exact q.elim
theorem ai_range1 {p pos : Pos} (hg : Gl X "range") (hm : X.mg "range" = none) (he : AEx X e ae) (hs : starEach [e] X.env = [(false, eval e X.env)] := by rfl) : PI X tg (.Call (.Name "range" p) [e] [] pos) (upI X.K (aRng1 ae)) := by
  refine (pi_range1 hg hm (pa_cons he pa_nil hs) hs).imp fun σ H Q ⟨W, n, ρ, AR, hK, R, h, k⟩ => ?_
  refine ⟨W, n, ρ, _, hK, R, h, fun v H1 av n1 e1 R1 r q => ?_⟩
  try dsimp only at q
  split at q
  · next j hj =>
    obtain ⟨q1, q2, q⟩ := q
    refine ⟨j, by rw [r.int_of hj], by omega, by omega, k _ _ H1 n1 e1 R1 ⟨fun i H hi _ => ?_, fun H _ => ?_, fun i H x H' hi _ y => ?_⟩ q⟩
    · show i < j.toNat
      simpa using hi
    · show j.toNat ≤ _
      simp
    · obtain ⟨rfl, rfl⟩ := y
      have hi' : i < j.toNat := by simpa using hi
      exact ⟨.int (0 + (i : Int)), by simp [hi'], .inl ⟨rfl, .int _⟩⟩
  · exact q.elim
end
end Ab
set_option Elab.async false
set_option linter.all false
set_option maxRecDepth 100000
set_option maxHeartbeats 4000000
/-! AbF: loops, comprehensions, calls, defs. -/
namespace Ab
open PySem PySem.Spec PyProof.Rows L2

/-! ### worlds with a larger base -/
structure Sub (W W2 : Wd) : Prop where
  K : W2.K = W.K
  p : W2.p = W.p
  c : W2.c = W.c
  cs : W2.cs = W.cs
  S : ∀ a, W.S a → W2.S a
  B : ∀ a o, W.B a = some o → a ≠ W.p → W2.B a = some o
theorem PenAt.sub {W W2 : Wd} {n : Nat} {H : Hp} (s : Sub W W2) (p : PenAt W2 n H) : PenAt W n H := by
  obtain ⟨t, r, e, z⟩ := p
  rw [s.p, s.c] at e
  exact ⟨t, r, e, z⟩
section
variable {W W2 : Wd} {n n0 : Nat} {ρ ρ0 : Env} {σ σ0 : L2.St} {H H0 : Hp}
theorem Rp.sub (R0 : Rp W n0 ρ0 σ0 H0) (s : Sub W W2) (hs : W2.S = W.S) (R : Rp W2 n ρ σ H) : Rp W n ρ σ H := by
  have oe : ∀ a, Out W ρ σ a ↔ Out W2 ρ σ a := fun a => ⟨fun z => z.elim (fun z => .inl (by rw [hs]; exact z)) .inr, fun z => z.elim (fun z => .inl (by rw [← hs]; exact z)) .inr⟩
  have sm : Same (off (Out W2 ρ σ) H) (off (Out W ρ σ) H) := off_sub (fun a _ _ h z => h ((oe a).mp z)) fun _ _ h _ => h
  refine ⟨R0.wc, R0.wp, R0.sp, R0.cp, fun a ha => R.sb a (by rw [hs]; exact ha), fun a o h1 h2 => R.ex a o (s.B a o h1 h2) (by rw [s.p]; exact h2), R.pen.sub s, R.len, fun i d h => ?_, fun i ds h => ?_, R.inj, fun i h => ?_⟩
  · obtain ⟨v, h1, h2⟩ := R.dat i d h
    rw [s.K] at h2
    exact ⟨v, h1, h2.mono sm⟩
  · obtain ⟨a, xs, h1, h2, h3, h4, h5⟩ := R.own i ds h
    rw [s.K] at h5
    have h3' : ¬ W.S a := by rw [← hs]; exact h3
    refine ⟨a, xs, h1, ?_, h3', h4, h5.mono sm⟩
    cases q : W.B a with
    | none => rfl
    | some o =>
      rw [s.B a o q fun z => h3' (z ▸ R0.sp)] at h2
      cases h2
  · rw [R.pn i h, s.p]
theorem Ret.sub {v : V} {av : AV} (R0 : Rp W n0 ρ0 σ0 H0) (s : Sub W W2) (hs : W2.S = W.S) (h : Ret W2 n H v av) : Ret W n H v av := by
  obtain ⟨h1, h2, h3⟩ := h
  refine ⟨fun a o e ne => h1 a o (s.B a o e ne) (by rw [s.p]; exact ne), h2.sub s, ?_⟩
  cases av with
  | st d =>
    rw [s.K, hs] at h3
    exact h3
  | fr ds =>
    obtain ⟨a, xs, e1, e2, e3, e4, e5⟩ := h3
    rw [s.K, hs] at e5
    rw [hs] at e3
    refine ⟨a, xs, e1, ?_, e3, e4, e5⟩
    cases q : W.B a with
    | none => rfl
    | some o =>
      rw [s.B a o q fun z => e3 (z ▸ R0.sp)] at e2
      cases e2
  | ow _ => exact h3.elim
  | pn => exact h3.elim
/-- the world of a loop that begins at H -/
noncomputable def loopW (W : Wd) (ρ : Env) (σ : L2.St) (H : Hp) : Wd := { W with B := base ρ σ H }
theorem loop_sub (R : Rp W n ρ σ H) : Sub W (loopW W ρ σ H) := by
  refine ⟨rfl, rfl, rfl, rfl, fun _ h => h, fun a o h1 h2 => ?_⟩
  show off (owns ρ σ) H a = some o
  rw [off_no]
  · exact R.ex a o h1 h2
  · rintro ⟨i, ds, z1, z2⟩
    obtain ⟨b, xs, e1, e2, _⟩ := R.own i ds z1
    rw [z2] at e1
    cases e1
    rw [e2] at h1
    cases h1
theorem loop_rp (R : Rp W n ρ σ H) : Rp (loopW W ρ σ H) n ρ σ H := by
  have s := loop_sub R
  have np : ¬ owns ρ σ W.p := by
    rintro ⟨i, ds, z1, z2⟩
    obtain ⟨b, xs, e1, _, e3, _⟩ := R.own i ds z1
    rw [z2] at e1
    cases e1
    exact e3 R.sp
  refine ⟨?_, ?_, R.sp, R.cp, R.sb, fun a o h1 h2 => (off_some (show off (owns ρ σ) H a = some o from h1)).2, R.pen, R.len, R.dat, fun i ds h => ?_, R.inj, R.pn⟩
  · exact s.B _ _ R.wc R.cp
  · show off (owns ρ σ) H W.p ≠ none
    rw [off_no np]
    obtain ⟨o, e⟩ := R.pin
    rw [e]
    intro z
    cases z
  · obtain ⟨a, xs, h1, h2, h3, h4, h5⟩ := R.own i ds h
    refine ⟨a, xs, h1, ?_, h3, h4, h5⟩
    show off (owns ρ σ) H a = none
    unfold off
    rw [if_pos ⟨i, ds, h, h1⟩]
end

/-! ### for -/
def aFor (ai : AI) (g : AG) (body : AS) : AS := fun A ρ n => ai ρ n fun ds n1 => ∃ I : Nat → Env → Nat → Prop, I 0 ρ n1 ∧
  (∀ i d ρ' n', ds[i]? = some d → I i ρ' n' → g d ρ' fun ρ2 => body { A with nx := I (i + 1), ct := I (i + 1), bk := A.nx } ρ2 n') ∧ ∀ ρ' n', I ds.length ρ' n' → A.nx ρ' n'
section
variable {X : Cx} {tg it : Expr} {body : List Stmt} {ai : AI} {g : AG} {t : AS} {pos : Pos} {vs : List Nat}
/-- an item, as it lies behind the iterator's turn -/
theorem item_rep {W : Wd} {n : Nat} {ρ : Env} {σ : L2.St} {H H' B : Hp} {x : V} {d : D} {K : PySem.W.Frag} {S : Addr → Prop} (hK : W.K = K) (R : Rp W n ρ σ H) (hS : ∀ a, W.S a → S a ∨ B a = none) (hB : ∀ a o, B a = some o → W.B a = some o) (hp : S W.p)
    (h : (H' = H ∧ Rep K (off S B) x d) ∨ ∃ T xs es, x = .ref T ∧ H T = none ∧ H' = upd H T (.tup xs) ∧ d = .tup es ∧ RepAll K (off S B) xs es) : Xt W.p H H' ∧ Rp W n ρ σ H' ∧ Rep W.K (off (Out W ρ σ) H') x d := by
  have sm : Same (off S B) (off (Out W ρ σ) H) := off_sub (fun a o e hn z => by
      rcases z with z | ⟨i, ds, z1, z2⟩
      · rcases hS a z with q | q
        · exact hn q
        · rw [q] at e
          cases e
      · obtain ⟨b, xs, e1, e2, _⟩ := R.own i ds z1
        rw [z2] at e1
        cases e1
        rw [hB a o e] at e2
        cases e2) fun a o e hn => R.ex a o (hB a o e) fun z => hn (z ▸ hp)
  subst hK
  rcases h with ⟨rfl, r⟩ | ⟨T, xs, es, rfl, hT, rfl, rfl, r⟩
  · exact ⟨Xt.refl, R, r.mono sm⟩
  · exact ⟨Xt.new hT, R.new hT, RepAV.mk_tup (H0 := H) R hT (r.mono sm)⟩
theorem as_for (hp : PassesOwn (model X.prog X.w) X.A X.env X.xe) (hc : X.calm = true) (hi : PI X tg it (upI X.K ai)) (hg : AGv X vs tg g) (hb : ASsx X body t) (hs : ∀ x, foldedSetIterable it X.env x = pure x := by intro _; rfl) : ASx X (.For tg it body [] pos) (aFor ai g t) := by
  refine (ps_for hp hc hi hg hb hs).imp fun D σ H ⟨W, n, ρ, A, hK, R, h, l⟩ => ?_
  refine ⟨W, n, ρ, _, hK, R, h, fun J ds H1 n1 e1 R1 wk q => ?_⟩
  obtain ⟨I, i0, is, id⟩ := q
  have s := loop_sub R1
  refine ⟨fun i m σ' H' => m = ds.length - i ∧ i ≤ ds.length ∧ ∃ ρ' n', Rp (loopW W ρ σ H1) n' ρ' σ' H' ∧ I i ρ' n', ⟨_, rfl, Nat.zero_le _, ρ, n1, loop_rp R1, i0⟩, ?_⟩
  rintro i m σ' H' ⟨rfl, hi, ρ', n', R', hI⟩
  have has : Has (base ρ σ H1) W.p H' := R'.ex
  have lift2 : ∀ (N : L2.St → Hp → Prop), (∀ ρ2 n2 σ2 H2, Rp (loopW W ρ σ H1) n2 ρ2 σ2 H2 → I (i + 1) ρ2 n2 → N σ2 H2) →
      Lift (loopW W ρ σ H1) { A with nx := I (i + 1), ct := I (i + 1), bk := A.nx } { D with nx := N, ct := N, bk := D.nx } := fun N hN =>
    ⟨hN, fun ρ2 n2 σ2 H2 R2 q => l.nx ρ2 n2 σ2 H2 (R1.sub s rfl R2) q, hN, fun v H2 av n2 r q => l.rt v H2 av n2 (r.sub R1 s rfl) q⟩
  by_cases hlt : i < ds.length
  · refine .inr ⟨wk.go i H' hlt has, fun σ2 H2 => ∃ ρ2 n2, Rp (loopW W ρ σ H1) n2 ρ2 σ2 H2 ∧ I (i + 1) ρ2 n2, fun σ2 H2 ⟨ρ2, n2, R2, h2⟩ => ⟨ds.length - (i + 1), by omega, rfl, hlt, ρ2, n2, R2, h2⟩, fun x H2 y => ?_⟩
    obtain ⟨d, hd, y⟩ := wk.yld i H' x H2 hlt has y
    obtain ⟨e2, R2, r2⟩ := item_rep (W := loopW W ρ σ H1) hK R' (fun a h => .inl h) (fun _ _ h => h) R1.sp y
    refine ⟨loopW W ρ σ H1, n', ρ', d, _, hK, R2, r2, is i d ρ' n' hd hI, fun ρ3 σ3 R3 _ _ _ q => ?_⟩
    exact ⟨loopW W ρ σ H1, n', ρ3, _, hK, R3, q, lift2 _ fun ρ2 n2 σ2 H2 R2 h2 => ⟨ρ2, n2, R2, h2⟩⟩
  · have e : i = ds.length := by omega
    subst e
    exact .inl ⟨wk.stop H' has, l.nx ρ' n' σ' H' (R1.sub s rfl R') (id ρ' n' hI)⟩
end

/-! ### while -/
def aWhile (c : AT) (body : AS) : AS := fun A ρ n => ∃ I : Nat → Env → Nat → Prop, (∃ m, I m ρ n) ∧ ∀ m ρ n, I m ρ n → c ρ n fun b n1 =>
  br b (body { A with nx := fun ρ' n' => ∃ m', m' < m ∧ I m' ρ' n', ct := fun ρ' n' => ∃ m', m' < m ∧ I m' ρ' n', bk := A.nx } ρ n1) (A.nx ρ n1)
section
variable {X : Cx} {c : Expr} {body : List Stmt} {ac : AT} {t : AS} {pos : Pos}
theorem as_while (hp : PassesOwn (model X.prog X.w) X.A X.env X.xe) (hc : ATx X c ac) (hb : ASsx X body t) : ASx X (.While c body [] pos) (aWhile ac t) := by
  refine (ps_while hp hc hb).imp fun D σ H ⟨W, n, ρ, A, hK, R, h, l⟩ => ?_
  obtain ⟨I, ⟨m, i0⟩, is⟩ := h
  refine ⟨fun m σ' H' => ∃ ρ' n', Rp W n' ρ' σ' H' ∧ I m ρ' n', ⟨m, ρ, n, R, i0⟩, fun m σ' H' ⟨ρ', n', R', hI⟩ => ?_⟩
  refine ⟨W, n', ρ', _, hK, R', is m ρ' n' hI, fun b H1 n1 e1 R1 q => ?_⟩
  cases b with
  | true =>
    refine ⟨fun σ2 H2 => ∃ ρ2 n2, Rp W n2 ρ2 σ2 H2 ∧ ∃ m', m' < m ∧ I m' ρ2 n2, fun σ2 H2 ⟨ρ2, n2, R2, m', hm, h2⟩ => ⟨m', hm, ρ2, n2, R2, h2⟩, ?_⟩
    exact ⟨W, n1, ρ', _, hK, R1, br_t q, ⟨fun ρ2 n2 σ2 H2 R2 h2 => ⟨ρ2, n2, R2, h2⟩, fun ρ2 n2 σ2 H2 R2 h2 => l.nx ρ2 n2 σ2 H2 R2 h2, fun ρ2 n2 σ2 H2 R2 h2 => ⟨ρ2, n2, R2, h2⟩, l.rt⟩⟩
  | false => exact l.nx ρ' n1 σ' H1 R1 (br_f q)
end

/-! ### comprehensions -/
def aLc (ai : AI) (g : AG) (tt : AT) (ae : AE) (vs : List Nat) : AE := fun ρ n Q => ai ρ n fun ds n1 => noOwn ρ vs = true ∧ ds.length < 100000 ∧ ∃ I : Nat → List D → Nat → Prop, I 0 [] n1 ∧
  (∀ i d acc n', ds[i]? = some d → I i acc n' → g d (wipeA ρ vs) fun ρ2 => tt ρ2 n' fun b n2 =>
    br b (ae ρ2 n2 fun av n3 => ∃ e, stOne av = some e ∧ I (i + 1) (acc ++ [e]) n3) (I (i + 1) acc n2)) ∧ ∀ acc n', I ds.length acc n' → Q (.fr acc) n'
/-- the world of a comprehension: its list at D is left alone -/
noncomputable def lcW (W : Wd) (ρ : Env) (σ : L2.St) (H : Hp) (D : Addr) : Wd := { W with B := base ρ σ H, S := fun a => W.S a ∨ a = D }
end Ab
set_option Elab.async false
set_option linter.all false
set_option maxRecDepth 100000
set_option maxHeartbeats 4000000
/-! AbG: comprehensions, calls, defs. -/
namespace Ab
open PySem PySem.Spec PyProof.Rows L2

theorem RepAll.same {K : PySem.W.Frag} {H H' : Hp} {vs : List V} {ds : List D} (r : RepAll K H vs ds) (e : Same H H') : RepAll K H' vs ds := r.mono e
section
variable {W : Wd} {n n' : Nat} {ρ : Env} {σ : L2.St} {H H1 H' : Hp}
/-- from the world of a statement to that of a comprehension whose list stands at D -/
theorem lc_rp {D : Addr} {vs : List Nat} (R : Rp W n ρ σ H) (hD : H D = none) (hn : noOwn ρ vs = true) : Rp (lcW W ρ σ H D) n (wipeA ρ vs) (wipe σ vs) (upd H D (.lst [])) := by
  have R1 : Rp W n (wipeA ρ vs) (wipe σ vs) (upd H D (.lst [])) := (R.wipes vs).new hD
  have L := loop_rp R
  have nd : ∀ a, a = D → ∀ o, H a ≠ some o := fun a e o q => by
    rw [e, hD] at q
    cases q
  have noD : ¬ Out W (wipeA ρ vs) (wipe σ vs) D := (R.wipes vs).fresh hD
  have sm : Same (off (Out W (wipeA ρ vs) (wipe σ vs)) H) (off (Out (lcW W ρ σ H D) (wipeA ρ vs) (wipe σ vs)) (upd H D (.lst []))) :=
    off_sub (fun a o e hx z => by
      rcases z with (z | z) | z
      · exact hx (.inl z)
      · exact nd a z o e
      · exact hx (.inr z)) fun a o e _ => by
        rw [upd_ne fun z => nd a z o e]
        exact e
  refine ⟨L.wc, L.wp, .inl R.sp, R.cp, fun a ha => ?_, fun a o h1 h2 => ?_, R.pen.xt_new hD, R1.len, fun i d h => ?_, fun i ds h => ?_, R1.inj, R1.pn⟩
  · rcases ha with z | z
    · exact R1.sb a z
    · rw [z, upd_same]
      intro q
      cases q
  · have q := L.ex a o h1 h2
    rw [upd_ne fun z => nd a z o q]
    exact q
  · obtain ⟨v, h1, h2⟩ := (R.wipes vs).dat i d h
    exact ⟨v, h1, h2.mono sm⟩
  · obtain ⟨a, xs, h1, h2, h3, h4, h5⟩ := (R.wipes vs).own i ds h
    obtain ⟨g1, g2⟩ := wipeA_own h
    obtain ⟨a', xs', k1, k2, k3, k4, k5⟩ := L.own i ds g1
    rw [wipe_get σ i vs g2, k1] at h1
    cases h1
    refine ⟨a, xs, by rw [wipe_get σ i vs g2]; exact k1, k2, fun z => ?_, ?_, h5.mono sm⟩
    · rcases z with z | z
      · exact h3 z
      · exact nd a z _ h4
    · rw [upd_ne fun z => nd a z _ h4]
      exact h4
/-- the comprehension's list grows -/
theorem lc_app {W2 : Wd} {D : Addr} {xs ys : List V} (R : Rp W2 n ρ σ H) (hS : W2.S D) (hp : D ≠ W2.p) (hB : W2.B D = none) (hd : H D = some (.lst xs)) : Rp W2 n ρ σ (upd H D (.lst ys)) ∧ Same (off (Out W2 ρ σ) H) (off (Out W2 ρ σ) (upd H D (.lst ys))) := by
  have sm : Same (off (Out W2 ρ σ) H) (off (Out W2 ρ σ) (upd H D (.lst ys))) := off_sub (fun _ _ _ h => h) fun a o e hx => by
    have na : a ≠ D := fun z => hx (.inl (by rw [z]; exact hS))
    rw [upd_ne na]
    exact e
  refine ⟨⟨R.wc, R.wp, R.sp, R.cp, fun a ha => ?_, fun a o h1 h2 => ?_, ?_, R.len, fun i d h => ?_, fun i ds h => ?_, R.inj, R.pn⟩, sm⟩
  · by_cases e : a = D
    · rw [e, upd_same]
      intro q
      cases q
    · rw [upd_ne e]
      exact R.sb a ha
  · have na : a ≠ D := fun z => by
      rw [z, hB] at h1
      cases h1
    rw [upd_ne na]
    exact R.ex a o h1 h2
  · obtain ⟨t, r, e, z⟩ := R.pen
    exact ⟨t, r, by rw [upd_ne (Ne.symm hp)]; exact e, z⟩
  · obtain ⟨v, h1, h2⟩ := R.dat i d h
    exact ⟨v, h1, h2.mono sm⟩
  · obtain ⟨a, zs, h1, h2, h3, h4, h5⟩ := R.own i ds h
    have na : a ≠ D := fun z => h3 (by rw [z]; exact hS)
    exact ⟨a, zs, h1, h2, h3, by rw [upd_ne na]; exact h4, h5.mono sm⟩
end
theorem wipe_idem (σ : L2.St) (vs : List Nat) : wipe (wipe σ vs) vs = wipe σ vs := by
  apply List.ext_getElem?
  intro j
  rw [wipe_nth, wipe_nth]
  by_cases hm : j ∈ vs
  · rw [if_pos hm, if_pos hm, Option.map_map]
    rfl
  · rw [if_neg hm, if_neg hm]
def aYes : AT := fun _ n Q => Q true n
section
variable {X : Cx} {elt tg it : Expr} {ifs : List Expr} {scope : Scope} {own : List (Str × Nat)} {pos : Pos} {ai : AI} {g : AG} {tt : AT} {ae : AE}
abbrev ATs (X : Cx) (ifs : List Expr) (tt : AT) : Prop := PTs X ifs (upT X.K tt)
theorem _root_.L2.PTs.imp {X : Cx} {e : List Expr} {t t' : TT} (h : PTs X e t) (k : ∀ σ H Q, t' σ H Q → t σ H Q) : PTs X e t' := ⟨fun pins s σ H Q I q => h.run pins s σ H Q I (k σ H Q q)⟩
theorem ats_nil : ATs X [] aYes := pts_nil.imp fun σ H Q ⟨W, n, ρ, AQ, hK, R, h, k⟩ => k true H n Xt.refl R h
theorem ats_one {c : Expr} (h : ATx X c tt) : ATs X [c] tt := pts_one h
theorem sim_lc {K : PySem.W.Frag} {vs : List Nat} : ∀ σ H Q, upE K (aLc ai g tt ae vs) σ H Q → tLc (upI K ai) (upGv K vs g) (upT K tt) (upE K ae) vs σ H Q := by
  rintro σ H Q ⟨W, n, ρ, AQ, hK, R, h, k⟩
  refine ⟨W, n, ρ, _, hK, R, h, fun J ds H1 n1 e1 R1 wk q => ?_⟩
  obtain ⟨hno, hlen, I, i0, is, id⟩ := q
  intro D hD
  have hDp : D ≠ W.p := R1.ne_p hD
  have hBD : base ρ σ H1 D = none := by
    cases q : base ρ σ H1 D with
    | none => rfl
    | some o =>
      have := off_le _ _ q
      rw [hD] at this
      cases this
  refine ⟨fun i m H' => m = ds.length - i ∧ i ≤ ds.length ∧ ∃ n' acc xs, Rp (lcW W ρ σ H1 D) n' (wipeA ρ vs) (wipe σ vs) H' ∧ Xt W.p H1 H' ∧ H' D = some (.lst xs) ∧ xs.length ≤ i ∧
    RepAll W.K (off (Out (lcW W ρ σ H1 D) (wipeA ρ vs) (wipe σ vs)) H') xs acc ∧ I i acc n', ⟨_, rfl, Nat.zero_le _, n1, [], [], lc_rp R1 hD hno, Xt.new hD, upd_same, Nat.le_refl _, .nil, i0⟩, ?_⟩
  rintro i m H' ⟨rfl, hi, n', acc, xs, R', e', hDx, hxl, hacc, hI⟩
  have has : Has (base ρ σ H1) W.p H' := R'.ex
  by_cases hlt : i < ds.length
  · refine .inr ⟨wk.go i H' hlt has, fun H2 => ∃ n' acc xs, Rp (lcW W ρ σ H1 D) n' (wipeA ρ vs) (wipe σ vs) H2 ∧ Xt W.p H1 H2 ∧ H2 D = some (.lst xs) ∧ xs.length ≤ i + 1 ∧
      RepAll W.K (off (Out (lcW W ρ σ H1 D) (wipeA ρ vs) (wipe σ vs)) H2) xs acc ∧ I (i + 1) acc n', fun H2 h2 => ⟨ds.length - (i + 1), by omega, rfl, hlt, h2⟩, fun x H2 y => ?_⟩
    obtain ⟨d, hd, y⟩ := wk.yld i H' x H2 hlt has y
    obtain ⟨e2, R2, r2⟩ := item_rep (W := lcW W ρ σ H1 D) hK R' (fun a h => h.elim .inl fun z => .inr (by rw [z]; exact hBD)) (fun _ _ h => h) R1.sp y
    refine ⟨lcW W ρ σ H1 D, n', wipeA ρ vs, d, _, hK, R2, r2, is i d acc n' hd hI, fun ρ3 σ3 R3 q1 q2 o3 q => ⟨q2.trans (wipe_idem σ vs), ?_⟩⟩
    have hno2 : noOwn (wipeA ρ vs) vs = true := by
      have : ∀ l : List Nat, (∀ v ∈ l, v ∈ vs) → noOwn (wipeA ρ vs) l = true := by
        intro l
        induction l with
        | nil => intro _; rfl
        | cons v l ih =>
          intro hl
          unfold noOwn
          rw [ih fun w hw => hl w (List.mem_cons_of_mem _ hw), Bool.and_true]
          split
          · next es he => exact absurd (hl v (by simp)) (wipeA_own he).2
          · rfl
      exact this vs fun _ h => h
    refine ⟨lcW W ρ σ H1 D, n', ρ3, _, hK, R3, q, fun b H3 n3 e3 R3' q => ?_⟩
    have back : ∀ {H4 : Hp} {n4 : Nat}, Xt W.p H' H4 → Rp (lcW W ρ σ H1 D) n4 ρ3 σ3 H4 → Rp (lcW W ρ σ H1 D) n4 (wipeA ρ vs) (wipe σ vs) H4 := fun {H4 n4} e4 R4 => R'.xt e4 R4.pen
    cases b with
    | true =>
      refine ⟨lcW W ρ σ H1 D, n3, ρ3, _, hK, R3', br_t q, fun v H4 av n4 e4 R4 r4 q => ?_⟩
      obtain ⟨e, he, q⟩ := q
      have x4 : Xt W.p H' H4 := (e2.trans e3).trans e4
      have hD4 : H4 D = some (.lst xs) := x4 D _ hDx hDp
      have R4' := back x4 R4
      have rv : Rep W.K (off (Out (lcW W ρ σ H1 D) (wipeA ρ vs) (wipe σ vs)) H4) v e :=
        (stOne_rep r4 he).mono (off_sub (fun a _ _ hx z => hx (out_same q1 q2 hno2 z)) fun _ _ h _ => h)
      obtain ⟨R5, s5⟩ := lc_app (ys := xs ++ [v]) R4' (.inr rfl) hDp hBD hD4
      refine ⟨xs, hD4, sz5' (by omega), n4, acc ++ [e], xs ++ [v], R5, fun a o h1 h2 => ?_, upd_same, by rw [List.length_append, List.length_singleton]; omega, ?_, q⟩
      · have na : a ≠ D := fun z => by
          rw [z, hD] at h1
          cases h1
        rw [upd_ne na]
        exact (e'.trans x4) a o h1 h2
      · exact ((hacc.mono (R'.offs x4)).append (.cons rv .nil)).mono s5
    | false =>
      have x3 : Xt W.p H' H3 := e2.trans e3
      exact ⟨n3, acc, xs, back x3 R3', e'.trans x3, x3 D _ hDx hDp, by omega, hacc.mono (R'.offs x3), br_f q⟩
  · have e : i = ds.length := by omega
    subst e
    refine .inl ⟨wk.stop H' has, k _ H' (.fr acc) n' (e1.trans e') (R1.xt e' (PenAt.sub (W2 := lcW W ρ σ H1 D) ⟨rfl, rfl, rfl, rfl, fun a h => Or.inl h, (loop_sub R1).B⟩ R'.pen)) ⟨D, xs, rfl, e1.none hD hDp, R1.fresh hD, hDx, hacc.mono (off_sub (fun a _ _ hx z => hx ?_) fun _ _ h _ => h)⟩ (id acc n' hI)⟩
    rcases z with z | z
    · rcases (out_wipe hno a).mpr z with w | w
      · exact .inl (.inl w)
      · exact .inr w
    · exact .inl (.inr z)
theorem ae_lc {vs : List Nat} (own : List (Str × Nat)) (hv : own.map (·.2) = vs) (hc : X.calm = true) (hN : X.N.Nodup) (hi : PI X tg it (upI X.K ai)) (ok : BlkOk X.N X.env.scope scope own)
    (hg : ∀ (s : Shared) (H : Hp) (C : Addr) (cl : List (Str × Addr)) (fp : List Addr), AGv (X.blk s H scope (compEnvC scope cl C X.env) fp) vs tg g)
    (ht : ∀ (s : Shared) (H : Hp) (C : Addr) (cl : List (Str × Addr)) (fp : List Addr), ATs (X.blk s H scope (compEnvC scope cl C X.env) fp) ifs tt)
    (he : ∀ (s : Shared) (H : Hp) (C : Addr) (cl : List (Str × Addr)) (fp : List Addr), AEx (X.blk s H scope (compEnvC scope cl C X.env) fp) elt ae) (hs : ∀ x, foldedSetIterable it X.env x = pure x := by intro _; rfl) :
    AEx X (.ListComp elt [⟨tg, it, ifs, 0⟩] scope pos) (aLc ai g tt ae vs) := by
  subst hv
  exact (pe_lc (te := upE X.K ae) (tt := upT X.K tt) (g := upGv X.K (own.map (·.2)) g) hc hN hi ok hg ht he hs).imp sim_lc
theorem as_setLc {vs : List Nat} (own : List (Str × Nat)) (hv : own.map (·.2) = vs) {i : Nat} {y : Str} {py spos : Pos} (hc : X.calm = true) (hN : X.N.Nodup) (hy : X.N[i]? = some y) (hyl : X.env.scope.names.lookup y = some .local)
    (hsw : swapsWith (.ListComp elt [⟨tg, it, ifs, 0⟩] scope pos) (some (.Name y py)) spos.line X.env = pure true) (hi : PI X tg it (upI X.K ai)) (ok : BlkOk X.N X.env.scope scope own)
    (hg : ∀ (s : Shared) (H : Hp) (C : Addr) (cl : List (Str × Addr)) (fp : List Addr), AGv (X.blk s H scope (compEnvC scope cl C X.env) fp) vs tg g)
    (ht : ∀ (s : Shared) (H : Hp) (C : Addr) (cl : List (Str × Addr)) (fp : List Addr), ATs (X.blk s H scope (compEnvC scope cl C X.env) fp) ifs tt)
    (he : ∀ (s : Shared) (H : Hp) (C : Addr) (cl : List (Str × Addr)) (fp : List Addr), AEx (X.blk s H scope (compEnvC scope cl C X.env) fp) elt ae) (hs : ∀ x, foldedSetIterable it X.env x = pure x := by intro _; rfl) :
    ASx X (.Assign [.Name y py] (.ListComp elt [⟨tg, it, ifs, 0⟩] scope pos) spos) (aSet i (aLc ai g tt ae vs)) := by
  subst hv
  refine (ps_setLc (te := upE X.K ae) (tt := upT X.K tt) (g := upGv X.K (own.map (·.2)) g) hc hN hy hyl hsw hi ok hg ht he hs).imp fun D σ H h => ?_
  obtain ⟨W, n, ρ, A, hK, R, h, l⟩ := h
  refine sim_lc σ H _ ⟨W, n, ρ, _, hK, R, h, fun v H1 av n1 e1 R1 r q => ?_⟩
  try dsimp only at q
  split at q
  · next d => exact l.nx _ n1 _ H1 (R1.setDat r) q
  · next ds => exact l.nx _ n1 _ H1 (R1.setDat r.stab) q
  · next =>
    cases r
    exact l.nx _ n1 _ H1 R1.setPen q
  · exact q.elim
theorem as_setLcO {vs : List Nat} (own : List (Str × Nat)) (hv : own.map (·.2) = vs) {i : Nat} {y : Str} {py spos : Pos} (hc : X.calm = true) (hN : X.N.Nodup) (hy : X.N[i]? = some y) (hyl : X.env.scope.names.lookup y = some .local)
    (hsw : swapsWith (.ListComp elt [⟨tg, it, ifs, 0⟩] scope pos) (some (.Name y py)) spos.line X.env = pure true) (hi : PI X tg it (upI X.K ai)) (ok : BlkOk X.N X.env.scope scope own)
    (hg : ∀ (s : Shared) (H : Hp) (C : Addr) (cl : List (Str × Addr)) (fp : List Addr), AGv (X.blk s H scope (compEnvC scope cl C X.env) fp) vs tg g)
    (ht : ∀ (s : Shared) (H : Hp) (C : Addr) (cl : List (Str × Addr)) (fp : List Addr), ATs (X.blk s H scope (compEnvC scope cl C X.env) fp) ifs tt)
    (he : ∀ (s : Shared) (H : Hp) (C : Addr) (cl : List (Str × Addr)) (fp : List Addr), AEx (X.blk s H scope (compEnvC scope cl C X.env) fp) elt ae) (hs : ∀ x, foldedSetIterable it X.env x = pure x := by intro _; rfl) :
    ASx X (.Assign [.Name y py] (.ListComp elt [⟨tg, it, ifs, 0⟩] scope pos) spos) (aSetO i (aLc ai g tt ae vs)) := by
  subst hv
  refine (ps_setLc (te := upE X.K ae) (tt := upT X.K tt) (g := upGv X.K (own.map (·.2)) g) hc hN hy hyl hsw hi ok hg ht he hs).imp fun D σ H h => ?_
  obtain ⟨W, n, ρ, A, hK, R, h, l⟩ := h
  refine sim_lc σ H _ ⟨W, n, ρ, _, hK, R, h, fun v H1 av n1 e1 R1 r q => ?_⟩
  try dsimp only at q
  split at q
  · next ds => exact l.nx _ n1 _ H1 (R.setOwn e1 R1 r) q
  · exact q.elim
end

/-! ### defs -/
abbrev ASp := List AV → Nat → (AV → Nat → Prop) → Prop
inductive RepArgs (W : Wd) : List V → List AV → Prop
  | nil : RepArgs W [] []
  | st {v : V} {vs : List V} {d : D} {as : List AV} : Rep W.K (off W.S W.B) v d → RepArgs W vs as → RepArgs W (v :: vs) (.st d :: as)
  | pn {vs : List V} {as : List AV} : RepArgs W vs as → RepArgs W (.ref W.p :: vs) (.pn :: as)
structure Begins (W : Wd) (n : Nat) : Prop where
  wc : W.B W.c = some (.lst (W.cs.map V.int))
  sp : W.S W.p
  cp : W.c ≠ W.p
  sb : ∀ a, W.S a → W.B a ≠ none
  pen : PenAt W n W.B
def spA (K : PySem.W.Frag) (asp : ASp) : Sp := fun vs H Q _ => ∃ (W : Wd) (n : Nat) (avs : List AV) (AQ : AV → Nat → Prop), W.K = K ∧ W.B = H ∧ Begins W n ∧ RepArgs W vs avs ∧ asp avs n AQ ∧
  ∀ v H' av n', Ret W n' H' v av → AQ av n' → Q v H'
def slotOf : AV → Sl
  | .st d => .dat d
  | .pn => .pen
  | _ => .un
def startA (k : Nat) (avs : List AV) : Env := avs.map slotOf ++ List.replicate (k - avs.length) .un
theorem RepArgs.length {W : Wd} {vs : List V} {avs : List AV} (h : RepArgs W vs avs) : vs.length = avs.length := by
  induction h with
  | nil => rfl
  | st _ _ ih => rw [List.length_cons, List.length_cons, ih]
  | pn _ ih => rw [List.length_cons, List.length_cons, ih]
theorem RepArgs.get {W : Wd} {vs : List V} {avs : List AV} (h : RepArgs W vs avs) : ∀ {i : Nat} {s : Sl}, (avs.map slotOf)[i]? = some s → (∃ d v, s = .dat d ∧ vs[i]? = some v ∧ Rep W.K (off W.S W.B) v d) ∨ (s = .pen ∧ vs[i]? = some (.ref W.p)) := by
  induction h with
  | nil =>
    intro i s e
    simp at e
  | @st v vs d as r _ ih =>
    intro i s e
    cases i with
    | zero =>
      simp [slotOf] at e
      subst e
      exact .inl ⟨d, v, rfl, rfl, r⟩
    | succ i =>
      have := ih (i := i) (s := s) (by simpa using e)
      simpa using this
  | @pn vs as _ ih =>
    intro i s e
    cases i with
    | zero =>
      simp [slotOf] at e
      subst e
      exact .inr ⟨rfl, rfl⟩
    | succ i =>
      have := ih (i := i) (s := s) (by simpa using e)
      simpa using this
theorem start_rp {W : Wd} {n : Nat} {N : List Str} {vs : List V} {avs : List AV} (b : Begins W n) (h : RepArgs W vs avs) : Rp W n (startA N.length avs) (L2.start N vs) W.B := by
  have hl := h.length
  have get : ∀ (i : Nat) (s : Sl), s ≠ .un → (startA N.length avs)[i]? = some s → (∃ d v, s = .dat d ∧ (L2.start N vs)[i]? = some (some v) ∧ Rep W.K (off W.S W.B) v d) ∨ (s = .pen ∧ (L2.start N vs)[i]? = some (some (.ref W.p))) := fun i s hs e => by
    unfold startA at e
    by_cases hi : i < avs.length
    · rw [List.getElem?_append_left (by simpa using hi)] at e
      have st : (L2.start N vs)[i]? = (vs[i]?).map some := by
        unfold L2.start
        rw [List.getElem?_append_left (by simpa [hl] using hi), List.getElem?_map]
      rcases h.get e with ⟨d, v, h1, h2, h3⟩ | ⟨h1, h2⟩
      · exact .inl ⟨d, v, h1, by rw [st, h2]; rfl, h3⟩
      · exact .inr ⟨h1, by rw [st, h2]; rfl⟩
    · rw [List.getElem?_append_right (by simpa using hi), List.getElem?_replicate] at e
      split at e
      · cases e
        exact absurd rfl hs
      · cases e
  have noOwn : ∀ (i : Nat) ds, (startA N.length avs)[i]? ≠ some (.own ds) := fun i ds e => by
    rcases get i _ (by intro z; cases z) e with ⟨d, v, h1, _⟩ | ⟨h1, _⟩
    · cases h1
    · cases h1
  have sm : Same (off W.S W.B) (off (Out W (startA N.length avs) (L2.start N vs)) W.B) := off_sub (fun a _ _ hn z => z.elim hn fun ⟨i, ds, h1, _⟩ => noOwn i ds h1) fun _ _ h _ => h
  refine ⟨b.wc, b.sb _ b.sp, b.sp, b.cp, b.sb, fun a o h _ => h, b.pen, ?_, fun i d e => ?_, fun i ds e => absurd e (noOwn i ds), fun i j ds es a e => absurd e (noOwn i ds), fun i e => ?_⟩
  · unfold startA L2.start
    rw [List.length_append, List.length_append, List.length_map, List.length_map, List.length_replicate, List.length_replicate, hl]
  · rcases get i _ (by intro z; cases z) e with ⟨d', v, h1, h2, h3⟩ | ⟨h1, _⟩
    · cases h1
      exact ⟨v, h2, h3.mono sm⟩
    · cases h1
  · rcases get i _ (by intro z; cases z) e with ⟨d', v, h1, _⟩ | ⟨_, h2⟩
    · cases h1
    · exact h2
section
variable {P : Program} {w : World} {K : PySem.W.Frag} {mg : Str → Option Value} {base : Heap}
/-- THE RULE for a def: its body over data, and what that says -/
theorem okA {x qual : Str} {st : Stmt} {f : Addr} {fd : FuncData} {N ps : List Str} {k : Nat} {asp : ASp} {as : AS} (F : Fun K x qual st f fd) (S : FnScope N ps (defScope st)) (len : ∀ avs n Q, asp avs n Q → avs.length = ps.length)
    (body : ∀ (cdv : Value) (A : Around) (outer : List PySem.Env) (s : Shared) (H : Hp) (E : XK), Room k (A.deeper (envOfC qual (defScope st) s.heap.objs.size f cdv)) → ASsx (cxOf CX0 P w K mg base N qual (defScope st) f cdv A outer s H E).nox (defBody st) as)
    (plain : ∀ avs n AQ, asp avs n AQ → as { nx := fun _ n => AQ (.st .non) n, rt := AQ } (startA N.length avs) n) : FnOk P w K mg base CX0 (k + 1) f fd ps (spA K asp) := by
  refine F.ok S (fun vs H Q E h => ?_) (fun cdv A outer s H vs Q E hr h => ?_)
  · obtain ⟨W, n, avs, AQ, _, _, _, r, h, _⟩ := h
    rw [r.length, len _ _ _ h]
  · obtain ⟨W, n, avs, AQ, hK, rfl, b, r, h, q⟩ := h
    refine ⟨_, body cdv A outer s W.B E hr, W, n, _, _, hK, start_rp b r, plain avs n AQ h, ?_⟩
    exact ⟨fun ρ n' σ H' R h' => q _ H' _ n' (show Ret W n' H' .non (.st .non) from ⟨R.ex, R.pen, Rep.non⟩) h', fun _ _ _ _ _ h => h.elim, fun _ _ _ _ _ h => h.elim, fun v H' av n' r h' => q v H' av n' r h'⟩
end

/-! ### calls of defs -/
/-- a value as an argument -/
def AV.arg : AV → Option AV
  | .st d => some (.st d)
  | .fr ds => some (.st (.lst ds))
  | .pn => some .pn
  | .ow _ => none
def argAll : List AV → Option (List AV)
  | [] => some []
  | a :: r => match a.arg, argAll r with
    | some b, some bs => some (b :: bs)
    | _, _ => none
def aCall (asp : ASp) (aa : AA) : AE := fun ρ n Q => aa ρ n fun avs n1 => match argAll avs with
  | some bs => asp bs n1 Q
  | none => False
def callW (W : Wd) (ρ : Env) (σ : L2.St) (H : Hp) : Wd := { W with B := H, S := Out W ρ σ }
section
variable {W : Wd} {n n' : Nat} {ρ : Env} {σ : L2.St} {H H0 H' : Hp} {vs : List V} {avs bs : List AV} {v : V} {av : AV}
theorem args_rep (R : Rp W n ρ σ H) (h : RepAVs W ρ σ H0 H vs avs) : ∀ {bs : List AV}, argAll avs = some bs → RepArgs (callW W ρ σ H) vs bs := by
  induction h with
  | nil =>
    intro bs e
    cases e
    exact .nil
  | @cons v vs a as r _ ih =>
    intro bs e
    unfold argAll at e
    split at e
    · next b bs' h1 h2 =>
      cases e
      cases a with
      | st d =>
        cases h1
        exact .st r (ih h2)
      | fr ds =>
        cases h1
        exact .st r.stab (ih h2)
      | pn =>
        cases h1
        cases r
        exact .pn (ih h2)
      | ow ds => cases h1
    · cases e
theorem begins_call (R : Rp W n ρ σ H) : Begins (callW W ρ σ H) n := by
  refine ⟨R.ex _ _ R.wc R.cp, R.out_p, R.cp, fun a ha => ?_, R.pen⟩
  intro z
  exact R.fresh z ha
theorem ret_call (R : Rp W n ρ σ H) (h : Ret (callW W ρ σ H) n' H' v av) : Xt W.p H H' ∧ Rp W n' ρ σ H' ∧ RepAV W ρ σ H H' v av := by
  obtain ⟨h1, h2, h3⟩ := h
  have e : Xt W.p H H' := h1
  refine ⟨e, R.xt e h2, ?_⟩
  cases av with
  | st d => exact h3
  | fr ds => exact h3
  | ow ds => exact h3.elim
  | pn => exact h3.elim
end
section
variable {X : Cx} {k : Nat} {f : Addr} {fd : FuncData} {ps ks : List Str} {asp : ASp} {x : Str} {p pos : Pos} {e : Expr} {es : List Expr} {aa ak : AA} {kws : List Keyword}
theorem ae_call (F : FnOk X.prog X.w X.K X.mg X.base CX0 k f fd ps (spA X.K asp)) (hr : Room k X.A) (hg : Gl X x) (hm : X.mg x = some (.ref f)) (hk : PySem.W.keepIn X.K (.ref f) = true) (hb : Binds X.K fd ps [])
    (ha : AAx X (e :: es) aa) (hdb : (x == ("__debug__" : Str)) = false := by decide) (he : starEach (e :: es) X.env = (false, eval e X.env) :: starEach es X.env := by rfl) (hpl : (backTo pos (starEach es X.env)).any (·.1) = false := by rfl) :
    AEx X (.Call (.Name x p) (e :: es) [] pos) (aCall asp aa) := by
  refine (pe_call F hr hg hm hk hb .nil pass0 ha hdb he hpl).imp fun σ H Q ⟨W, n, ρ, AQ, hK, R, h, k⟩ => ?_
  refine ⟨W, n, ρ, _, hK, R, h, fun vs H1 avs n1 e1 R1 rs q => ?_⟩
  try dsimp only at q
  split at q
  · next bs hb =>
    rw [List.append_nil]
    refine ⟨callW W ρ σ H1, n1, bs, AQ, hK, rfl, begins_call R1, args_rep R1 rs hb, q, fun v H' av n' r q => ?_⟩
    obtain ⟨e2, R2, r2⟩ := ret_call R1 r
    exact (k.late R e1) v H' av n' e2 R2 r2 q
  · exact q.elim
end
end Ab
set_option Elab.async false
set_option linter.all false
set_option maxRecDepth 100000
set_option maxHeartbeats 4000000
/-! AbH: zip of lists and tuples in any mix; calls with keywords; the pen. -/
namespace Ab
open PySem PySem.Spec PyProof.Rows L2

/-- b: a list; else a tuple -/
def SqB (K : PySem.W.Frag) (H : Hp) (b : Bool) (a : Addr) (xs : List V) : Prop := match b with
  | true => SqL K H a xs
  | false => SqT K H a xs
def IterB (h : Heap) (b : Bool) (it l : Addr) (i : Nat) : Prop := match b with
  | true => h.IsListIter it l i
  | false => h.IsTupleIter it l i
def HoldB (h : Heap) (b : Bool) (l : Addr) (items : Array Value) : Prop := match b with
  | true => h.IsList l items
  | false => h.IsTuple l items
theorem iterB_obj {h : Heap} {b : Bool} {it l : Addr} {i : Nat} (x : IterB h b it l i) : ∃ o, h.get? it = some o ∧ ∀ v, o.data ≠ .cell v := by
  cases b with
  | true =>
    obtain ⟨o, e, _, d⟩ := x
    exact ⟨o, e, fun v q => by rw [d] at q; cases q⟩
  | false =>
    obtain ⟨o, e, _, d⟩ := x
    exact ⟨o, e, fun v q => by rw [d] at q; cases q⟩
theorem iterB_at {h h' : Heap} {b : Bool} {it l : Addr} {i : Nat} (x : IterB h b it l i) (k : ∀ o, h.get? it = some o → h'.get? it = some o) : IterB h' b it l i := by
  cases b with
  | true => exact Heap.IsListIter.at x k
  | false => exact Heap.IsTupleIter.at x k
theorem drB {prog : Program} {w : World} {A : Around} (b : Bool) (hh : A.handled = none) (it l : Addr) (hne : l ≠ it) (items : Array Value) :
    Draws prog w A it [it, l] items.size (fun i v => items[i]? = some v) (fun i h => IterB h b it l i ∧ HoldB h b l items) := by
  cases b with
  | true => exact Draws.list hh it l hne items
  | false => exact Draws.tuple hh it l hne items
def iterObj (b : Bool) (l : Addr) : Obj := match b with
  | true => { cls := .type "list_iterator", data := .fields #[.ref l, .int 0 0] }
  | false => { cls := .type "tuple_iterator", data := .fields #[.ref l, .int 0 0] }
theorem begB (b : Bool) (l : Addr) (items : Array Value) : PySem.Begins (.ref l) (iterObj b l) (fun h => HoldB h b l items) := by
  cases b with
  | true => exact begins_list l items
  | false => exact begins_tuple l items
theorem iterB_new {h : Heap} {b : Bool} {it l : Addr} (e : h.get? it = some (iterObj b l)) : IterB h b it l 0 := by
  cases b with
  | true => exact ⟨_, e, rfl, rfl⟩
  | false => exact ⟨_, e, rfl, rfl⟩
section
variable {X : Cx} {pins : List (Addr × Obj)} {σ : L2.St} {H : Hp} {s : Shared} {b : Bool} {a : Addr} {xs : List V}
theorem inv_sq (I : Inv X pins σ H s) (h : SqB X.K H b a xs) : ∃ its : List Value, Vals xs its ∧ HoldB s.heap b a its.toArray ∧ a < s.heap.objs.size := by
  cases b with
  | true =>
    obtain ⟨its, rv, p, _⟩ := I.list h
    exact ⟨its, rv, p.isList, p.lt⟩
  | false =>
    obtain ⟨its, rv, p, _⟩ := I.tuple h
    obtain ⟨o, ho, _⟩ := id p
    exact ⟨its, rv, p, Heap.lt_size ho⟩
theorem sq_inj {ys : List V} (I : Inv X pins σ H s) (h : SqB X.K H b a xs) (h' : SqB X.K H b a ys) : xs = ys := by
  cases b with
  | true => exact I.list_inj h h'
  | false => exact I.tuple_inj h h'
end
def ItzM (K : PySem.W.Frag) (ka kb : Bool) (a b : Addr) : It :=
  ⟨fun i H => ∃ (xs ys : List V) (x y : V), SqB K H ka a xs ∧ SqB K H kb b ys ∧ xs[i]? = some x ∧ ys[i]? = some y,
    fun i H v H' => ∃ T x y, v = .ref T ∧ H T = none ∧ H' = upd H T (.tup [x, y]) ∧ (∀ xs, SqB K H ka a xs → xs[i]? = some x) ∧ ∀ ys, SqB K H kb b ys → ys[i]? = some y,
    fun i H => ∃ xs ys : List V, SqB K H ka a xs ∧ SqB K H kb b ys ∧ i ≤ xs.length ∧ i ≤ ys.length ∧ (i = xs.length ∨ i = ys.length)⟩
structure ZSep (z TI TO i1 i2 a b : Addr) : Prop where
  TIz : TI ≠ z
  TOz : TO ≠ z
  TITO : TI ≠ TO
  TIi1 : TI ≠ i1
  TIi2 : TI ≠ i2
  zi1 : z ≠ i1
  zi2 : z ≠ i2
  TOi1 : TO ≠ i1
  TOi2 : TO ≠ i2
  za : z ≠ a
  zb : z ≠ b
  TOa : TO ≠ a
  TOb : TO ≠ b
  ai1 : a ≠ i1
  bi2 : b ≠ i2
  ii : i1 ≠ i2
  i1b : i1 ≠ b
  i2a : i2 ≠ a
theorem ZSep.two {z TI TO i1 i2 a b : Addr} (D : ZSep z TI TO i1 i2 a b) : ZipSep2 z TI TO i1 i2 [i1, a] [i2, b] where
  TIz := D.TIz
  TOz := D.TOz
  TITO := D.TITO
  TIi1 := D.TIi1
  mem1 := by simp
  zf1 := by simp [D.zi1, D.za]
  Tf1 := by simp [D.TOi1, D.TOa]
  TIi2 := D.TIi2
  mem2 := by simp
  zf2 := by simp [D.zi2, D.zb]
  Tf2 := by simp [D.TOi2, D.TOb]
  sep1_2 := by simp [D.ii, D.i1b]
  sep2_1 := by simp [D.ii.symm, D.i2a]
theorem turn_zipM {P : Program} {w : World} {K : PySem.W.Frag} {elts : List Expr} {kk : Nat} {tpos : Pos} {ka kb : Bool} {a b z TI TO i1 i2 : Addr} (D : ZSep z TI TO i1 i2 a b) :
    Turn P w K (.Tuple elts kk tpos) (ItzM K ka kb a b) [z, TI, TO, i1, i2] z (fun i h => IsZip h z TI TO .none ∧ IsTupOf2 h TI (.ref i1) (.ref i2) ∧ (∃ x y, IsTupOf2 h TO x y) ∧ IterB h ka i1 a i ∧ IterB h kb i2 b i) where
  mem := by simp
  obj := fun i h st c hc => by
    obtain ⟨hz, hTI, ⟨x, y, hTO⟩, h1, h2⟩ := st
    have e' : c = z ∨ c = TI ∨ c = TO ∨ c = i1 ∨ c = i2 := by simpa using hc
    rcases e' with q | q | q | q | q
    · rw [q]; exact ⟨_, hz, fun v q => nomatch q⟩
    · rw [q]; exact ⟨_, hTI, fun v q => nomatch q⟩
    · rw [q]; exact ⟨_, hTO, fun v q => nomatch q⟩
    · rw [q]; exact iterB_obj h1
    · rw [q]; exact iterB_obj h2
  keep := fun i h h' st k => by
    obtain ⟨hz, hTI, ⟨x, y, hTO⟩, h1, h2⟩ := st
    exact ⟨k z (by simp) _ hz, k TI (by simp) _ hTI, ⟨x, y, k TO (by simp) _ hTO⟩, iterB_at h1 fun o q => k i1 (by simp) o q, iterB_at h2 fun o q => k i2 (by simp) o q⟩
  item := by
    intro X hP hw hK hc i pins s σ H E I hf st hg
    subst hP hw hK
    obtain ⟨hz, hTI, ⟨x0, y0, hTO⟩, h1, h2⟩ := st
    obtain ⟨xs, ys, x, y, hqx, hqy, hx, hy⟩ := hg
    obtain ⟨its, rv, p, _⟩ := inv_sq I hqx
    obtain ⟨its2, rv2, p2, _⟩ := inv_sq I hqy
    obtain ⟨u, hu, ru⟩ := rv.get hx
    obtain ⟨u2, hu2, ru2⟩ := rv2.get hy
    have hzl : z < s.heap.objs.size := Heap.lt_size hz
    have hh : X.A.in1.handled = none := I.ok.hd hc
    have l1 : i < its.toArray.size := by
      have := (List.getElem?_eq_some_iff.mp hu).1
      simpa using this
    have l2 : i < its2.toArray.size := by
      have := (List.getElem?_eq_some_iff.mp hu2).1
      simpa using this
    refine wpAny_pyNext_zipD2_item D.two (drB ka hh i1 a D.ai1 its.toArray) (drB kb hh i2 b D.bi2 its2.toArray) hz hTI hTO ⟨h1, p⟩ ⟨h2, p2⟩ l1 l2 fun x1 x2 h' tk y1 y2 z' TO' s1' s2' hT hsz hk => ?_
    have ex1 : x1 = u := by
      have q : its[i]? = some x1 := by simpa using y1
      rw [hu] at q
      exact (Option.some.inj q).symm
    have ex2 : x2 = u2 := by
      have q : its2[i]? = some x2 := by simpa using y2
      rw [hu2] at q
      exact (Option.some.inj q).symm
    subst ex1 ex2
    refine ⟨_, rfl, wpAny_letOwnedTupleGo_zip (s := { s with heap := h', toks := tk }) z' fun h'' z'' sb => ?_⟩
    have hT2 : h''.get? s.heap.objs.size = some { cls := .type "tuple", data := .seq #[x1, x2] } := (sb.2 _ (Nat.ne_of_gt hzl)).trans hT
    have new : ObjOk X.prog X.w (upd H s.heap.objs.size (.tup [x, y])) h'' s.heap.objs.size (.tup [x, y]) :=
      ⟨by show 2 ≤ sizeLine; decide, [x1, x2], .cons ru (.cons ru2 .nil), ⟨_, hT2, rfl, _, rfl⟩⟩
    have I1 : Inv X pins σ (upd H s.heap.objs.size (.tup [x, y])) { s with heap := h'', toks := tk } :=
      I.turnedNew (t' := tk) (ch := [z, TI, TO, i1, i2]) (fun c o hb q => (sb.2 c (fun q' => hb (by simp [q']))).trans (hk c o (fun q' => hb (by simp [q'])) (fun q' => hb (by simp [q'])) (fun q' => hb (by simp [q'])) (fun q' => hb (by simp [q'])) q)) hf (Nat.le_refl _) new
    refine ⟨.ref s.heap.objs.size, _, I1, rfl, ⟨_, x, y, rfl, I.hok.fresh (Nat.le_refl _), rfl, fun l hl => by rw [sq_inj I hl hqx]; exact hx, fun l hl => by rw [sq_inj I hl hqy]; exact hy⟩, ⟨z'', ?_, ⟨x1, x2, ?_⟩, ?_, ?_⟩, fun c hcm => ?_⟩
    · exact (sb.2 _ D.TIz).trans (hk _ _ D.TIz D.TITO D.TIi1 D.TIi2 hTI)
    · exact (sb.2 _ D.TOz).trans TO'
    · exact iterB_at s1'.1 fun o q => (sb.2 _ D.zi1.symm).trans q
    · exact iterB_at s2'.1 fun o q => (sb.2 _ D.zi2.symm).trans q
    · have hlt : c < s.heap.objs.size := by
        have e' : c = z ∨ c = TI ∨ c = TO ∨ c = i1 ∨ c = i2 := by simpa using hcm
        rcases e' with q | q | q | q | q
        · rw [q]; exact hzl
        · rw [q]; exact Heap.lt_size hTI
        · rw [q]; exact Heap.lt_size hTO
        · rw [q]; obtain ⟨_, e1, _⟩ := iterB_obj h1; exact Heap.lt_size e1
        · rw [q]; obtain ⟨_, e2, _⟩ := iterB_obj h2; exact Heap.lt_size e2
      rw [upd_ne (Nat.ne_of_lt hlt)]
      exact (hf c hcm).1
  done := by
    intro X hP hw hK hc i pins s σ H E I hf st hg
    subst hP hw hK
    obtain ⟨hz, hTI, ⟨x0, y0, hTO⟩, h1, h2⟩ := st
    obtain ⟨xs, ys, hqx, hqy, b1, b2, hend⟩ := hg
    obtain ⟨its, rv, p, _⟩ := inv_sq I hqx
    obtain ⟨its2, rv2, p2, _⟩ := inv_sq I hqy
    have q1 : xs.length = its.toArray.size := by rw [List.size_toArray]; exact rv.length
    have q2 : ys.length = its2.toArray.size := by rw [List.size_toArray]; exact rv2.length
    have hh : X.A.in1.handled = none := I.ok.hd hc
    exact wpAny_pyNext_zipD2_end D.two (drB ka hh i1 a D.ai1 its.toArray) (drB kb hh i2 b D.bi2 its2.toArray) hz hTI hTO ⟨h1, p⟩ ⟨h2, p2⟩ (by omega) (by omega) (by omega) fun h' tk hk => ⟨rfl, I.turnedL (t' := tk) (ch := [z, TI, TO, i1, i2]) (fun c o hb q =>
      hk c o (fun q' => hb (by simp [q'])) (fun q' => hb (by simp [q'])) (fun q' => hb (by simp [q'])) (fun q' => hb (by simp [q'])) q) hf⟩
  self := fun A i s Q E st h => wpAny_pyIter_zip st.1 h
theorem zsep_nat {n a b : Nat} (ha : a < n) (hb : b < n) : ZSep (n + 4) (n + 2) (n + 3) n (n + 1) a b :=
  ⟨show @Ne Nat _ _ by omega, show @Ne Nat _ _ by omega, show @Ne Nat _ _ by omega, show @Ne Nat _ _ by omega, show @Ne Nat _ _ by omega, show @Ne Nat _ _ by omega, show @Ne Nat _ _ by omega, show @Ne Nat _ _ by omega, show @Ne Nat _ _ by omega,
    show @Ne Nat _ _ by omega, show @Ne Nat _ _ by omega, show @Ne Nat _ _ by omega, show @Ne Nat _ _ by omega, show @Ne Nat _ _ by omega, show @Ne Nat _ _ by omega, show @Ne Nat _ _ by omega, show @Ne Nat _ _ by omega, show @Ne Nat _ _ by omega⟩
theorem zsep_new {n a b : Addr} (ha : a < n) (hb : b < n) : ZSep (n + 4) (n + 2) (n + 3) n (n + 1) a b := zsep_nat ha hb
def iZipM (K : PySem.W.Frag) (ta : TA) : TI := fun σ H R => ta σ H fun vs H1 => ∃ (ka kb : Bool) (a b : Addr) (xs ys : List V), vs = [.ref a, .ref b] ∧ SqB K H1 ka a xs ∧ SqB K H1 kb b ys ∧ R (ItzM K ka kb a b) H1
theorem pi_zipM {X : Cx} {e e2 : Expr} {ta : TA} {p pos tpos : Pos} {elts : List Expr} {kk : Nat} (hg : Gl X "zip") (hm : X.mg "zip" = none) (ha : PA X [e, e2] ta)
    (hs : starEach [e, e2] X.env = (false, eval e X.env) :: starEach [e2] X.env := by rfl) (hpl : (backTo pos (starEach [e2] X.env)).any (·.1) = false := by rfl) :
    PI X (.Tuple elts kk tpos) (.Call (.Name "zip" p) [e, e2] [] pos) (iZipM X.K ta) := by
  refine ⟨fun pins s σ H R I h => ?_⟩
  refine Call_ (ld_blt I hg hm PyProof.Rows.boot_zip (PyProof.Rows.callWith_type1 (thn (ha.run pos pins s σ H _ I h) fun us s1 ⟨vs, H1, I1, r1, q1⟩ => ?_) hs hpl))
  obtain ⟨ka, kb, a, b, xs, ys, ex, hqx, hqy, q⟩ := q1
  subst ex
  cases r1 with
  | cons r rr =>
    cases rr with
    | cons r' rr =>
      cases rr
      cases r
      cases r'
      obtain ⟨its, rv, p1, la⟩ := inv_sq I1 hqx
      obtain ⟨its2, rv2, p2, lb⟩ := inv_sq I1 hqy
      refine zip_begins2 (begB ka a its.toArray) (begB kb b its2.toArray) p1 p2 fun h' hz hTI hTO h1 h2 hsz hk => wpAny_pyIter_zip hz ?_
      have I2 : Inv X pins σ H1 { s1 with heap := h' } := I1.kept (t' := s1.toks) hk
      refine ⟨s1.heap.objs.size + 4, [s1.heap.objs.size + 4, s1.heap.objs.size + 2, s1.heap.objs.size + 3, s1.heap.objs.size, s1.heap.objs.size + 1], _, _, H1, rfl, I2, turn_zipM (zsep_new la lb), ⟨hz, hTI, ⟨_, _, hTO⟩, iterB_new h1, iterB_new h2⟩, fun c hcm => ?_, q⟩
      have e' : c = s1.heap.objs.size + 4 ∨ c = s1.heap.objs.size + 2 ∨ c = s1.heap.objs.size + 3 ∨ c = s1.heap.objs.size ∨ c = s1.heap.objs.size + 1 := by simpa using hcm
      have hle : s1.heap.objs.size ≤ c := by
        rcases e' with z | z | z | z | z
        · rw [z]; exact Nat.le_add_right _ _
        · rw [z]; exact Nat.le_add_right _ _
        · rw [z]; exact Nat.le_add_right _ _
        · rw [z]; exact Nat.le_refl _
        · rw [z]; exact Nat.le_add_right _ _
      exact I1.fpOk hle (I1.hok.fresh hle)

/-! ### over data -/
def seqD (d : D) : Option (List D) := match d with
  | .lst ds => some ds
  | .tup ds => some ds
  | _ => none
def zipD (ds es : List D) : List D := (ds.zip es).map fun p => D.tup [p.1, p.2]
def aZip (aa : AA) : AI := fun ρ n R => aa ρ n fun avs n1 => match avs with
  | [x, y] => match stOne x, stOne y with
    | some d, some e => match seqD d, seqD e with
      | some ds, some es => R (zipD ds es) n1
      | _, _ => False
    | _, _ => False
  | _ => False
theorem seq_base {W : Wd} {n : Nat} {ρ : Env} {σ : L2.St} {H : Hp} {v : V} {d : D} {ds : List D} (R : Rp W n ρ σ H) (r : Rep W.K (off (Out W ρ σ) H) v d) (e : seqD d = some ds) :
    ∃ (b : Bool) (a : Addr) (xs : List V), v = .ref a ∧ SqB W.K H b a xs ∧ (∀ H', Has (base ρ σ H) W.p H' → SqB W.K H' b a xs) ∧ RepAll W.K (off W.S (base ρ σ H)) xs ds := by
  cases r with
  | lst h1 h2 =>
    cases e
    obtain ⟨g1, g2⟩ := off_some h1
    refine ⟨true, _, _, rfl, .inl (.inl g2), fun H' hb => .inl (.inl (hb _ _ ?_ fun z => g1 (z ▸ R.out_p))), h2.mono off_base⟩
    unfold base
    rw [off_no fun z => g1 (.inr z)]
    exact g2
  | tup h1 h2 =>
    cases e
    exact ⟨false, _, _, rfl, sqt_mono off_le h1, fun H' hb => sqt_has R.sp (sqt_mono off_base h1) hb, h2.mono off_base⟩
  | _ => cases e
theorem ai_zip {X : Cx} {e e2 : Expr} {aa : AA} {p pos tpos : Pos} {elts : List Expr} {kk : Nat} (hg : Gl X "zip") (hm : X.mg "zip" = none) (ha : AAx X [e, e2] aa)
    (hs : starEach [e, e2] X.env = (false, eval e X.env) :: starEach [e2] X.env := by rfl) (hpl : (backTo pos (starEach [e2] X.env)).any (·.1) = false := by rfl) :
    PI X (.Tuple elts kk tpos) (.Call (.Name "zip" p) [e, e2] [] pos) (upI X.K (aZip aa)) := by
  refine (pi_zipM hg hm ha hs hpl).imp fun σ H Q ⟨W, n, ρ, AR, hK, R, h, k⟩ => ?_
  refine ⟨W, n, ρ, _, hK, R, h, fun vs H1 avs n1 e1 R1 rs q => ?_⟩
  try dsimp only at q
  split at q
  · next x y =>
    split at q
    · next d e hd he =>
      split at q
      · next ds es hds hes =>
        obtain ⟨v, w, rfl, r1, r2⟩ := rs.two
        obtain ⟨ka, a, xs, rfl, s1, s2, s3⟩ := seq_base R1 (stOne_rep r1 hd) hds
        obtain ⟨kb, b, ys, rfl, t1, t2, t3⟩ := seq_base R1 (stOne_rep r2 he) hes
        refine ⟨ka, kb, a, b, xs, ys, rfl, by rw [← hK]; exact s1, by rw [← hK]; exact t1, k _ _ H1 n1 e1 R1 ?_ q⟩
        rw [← hK]
        have zl : (zipD ds es).length = min xs.length ys.length := by
          unfold zipD
          rw [List.length_map, List.length_zip, s3.length, t3.length]
        refine ⟨fun i H hi hb => ?_, fun H hb => ?_, fun i H x H' hi hb y => ?_⟩
        · have h1 : i < xs.length := by omega
          have h2 : i < ys.length := by omega
          exact ⟨xs, ys, xs[i], ys[i], s2 H hb, t2 H hb, by simp [h1], by simp [h2]⟩
        · exact ⟨xs, ys, s2 H hb, t2 H hb, by omega, by omega, by omega⟩
        · obtain ⟨T, x, z, rfl, hT, rfl, f1, f2⟩ := y
          obtain ⟨d1, g1, g2⟩ := s3.getV (f1 xs (s2 H hb))
          obtain ⟨d2, g3, g4⟩ := t3.getV (f2 ys (t2 H hb))
          refine ⟨.tup [d1, d2], ?_, .inr ⟨T, [x, z], [d1, d2], rfl, hT, rfl, rfl, .cons g2 (.cons g4 .nil)⟩⟩
          unfold zipD
          rw [List.getElem?_map, List.getElem?_zip_eq_some (z := (d1, d2)) |>.mpr ⟨g1, g3⟩]
          rfl
      · exact q.elim
    · exact q.elim
  · exact q.elim

/-! ### calls with keywords -/
def upKA (K : PySem.W.Frag) (aa : AA) : TA := upA K aa
abbrev AKx (X : Cx) (kws : List Keyword) (aa : AA) : Prop := PK X kws (upA X.K aa)
theorem _root_.L2.PK.imp {X : Cx} {e : List Keyword} {t t' : TA} (h : PK X e t) (k : ∀ σ H Q, t' σ H Q → t σ H Q) : PK X e t' := ⟨fun pos pins s σ H Q I q => h.run pos pins s σ H Q I (k σ H Q q)⟩
def aCallK (asp : ASp) (gA : List AV → List AV → List AV) (aa ak : AA) : AE := fun ρ n Q => aa ρ n fun avs n1 => ak ρ n1 fun aks n2 => match argAll (gA avs aks) with
  | some bs => asp bs n2 Q
  | none => False
section
variable {X : Cx} {k : Nat} {f : Addr} {fd : FuncData} {ps ks : List Str} {asp : ASp} {x : Str} {p pos kpos : Pos} {e : Expr} {es : List Expr} {ae : AE} {aa ak : AA} {kws : List Keyword} {nm : Option Str}
theorem ak_nil : AKx X [] aNil := pk_nil.imp fun σ H Q ⟨W, n, ρ, AQ, hK, R, h, k⟩ => k [] H [] n Xt.refl R .nil h
theorem ak_cons (he : AEx X e ae) (hr : AKx X kws aa) : AKx X (⟨nm, e, kpos⟩ :: kws) (aCons ae aa) := by
  refine (pk_cons he hr).imp fun σ H Q ⟨W, n, ρ, AQ, hK, R, h, k⟩ => ?_
  refine ⟨W, n, ρ, _, hK, R, h, fun x H1 ax n1 e1 R1 rx hx => ⟨W, n1, ρ, _, hK, R1, hx, fun xs H2 axs n2 e2 R2 rs hs => ?_⟩⟩
  exact k (x :: xs) H2 (ax :: axs) n2 (e1.trans e2) R2 (.cons (rx.mono R1 e2) (rs.early R e1)) hs
theorem RepAVs.app {W : Wd} {ρ : Env} {σ : L2.St} {H0 H : Hp} {vs ws : List V} {as bs : List AV} (h : RepAVs W ρ σ H0 H vs as) (h2 : RepAVs W ρ σ H0 H ws bs) : RepAVs W ρ σ H0 H (vs ++ ws) (as ++ bs) := by
  induction h with
  | nil => exact h2
  | cons r _ ih => exact .cons r ih
/-- positional arguments, then keywords that stand in the parameters' order, none left to a default -/
theorem kb_app {K : PySem.W.Frag} {fd : FuncData} {ps ks : List Str} (h : ∀ us ws : List Value, us.length + ws.length = ps.length → ws.length = ks.length → bindArgs fd ⟨us, ks.zip ws⟩ = pure (ps.zip (us ++ ws))) (m : ∀ (us ws : List Value), True) :
    ∀ (s : Shared) (us ws : List Value), K.In s.heap → (us ++ ws).length = ps.length → ws.length = ks.length → BindsTo s fd ⟨us, ks.zip ws⟩ (ps.zip (us ++ ws)) := fun s us ws _ hl hw =>
  .of_eq (h us ws (by simpa using hl) hw)
theorem ae_callK {g : List Value → List Value → List Value} {gV : List V → List V → List V} {gA : List AV → List AV → List AV} (F : FnOk X.prog X.w X.K X.mg X.base CX0 k f fd ps (spA X.K asp)) (hr : Room k X.A) (hg : Gl X x) (hm : X.mg x = some (.ref f)) (hk : PySem.W.keepIn X.K (.ref f) = true) (hb : KBinds X.K fd ps ks g gV)
    (hA : ∀ (W : Wd) (ρ : Env) (σ : L2.St) (H0 H : Hp) (vs ws : List V) (as bs : List AV), RepAVs W ρ σ H0 H vs as → RepAVs W ρ σ H0 H ws bs → RepAVs W ρ σ H0 H (gV vs ws) (gA as bs))
    (ha : AAx X (e :: es) aa) (hkw : AKx X kws ak) (hall : (backToKw pos (keywordEach kws X.env)).all (·.1.isSome) = true := by rfl) (hks : (backToKw pos (keywordEach kws X.env)).filterMap (·.1) = ks := by rfl)
    (hdb : (x == ("__debug__" : Str)) = false := by decide) (he : starEach (e :: es) X.env = (false, eval e X.env) :: starEach es X.env := by rfl)
    (hpl : ((backTo pos (starEach (e :: es) X.env)).any (·.1) || (backToKw pos (keywordEach kws X.env)).any (·.1.isNone)) = false := by rfl) :
    AEx X (.Call (.Name x p) (e :: es) kws pos) (aCallK asp gA aa ak) := by
  refine (pe_callK F hr hg hm hk hb pass0 ha hkw hall hks hdb he hpl).imp fun σ H Q ⟨W, n, ρ, AQ, hK, R, h, k⟩ => ?_
  refine ⟨W, n, ρ, _, hK, R, h, fun vs H1 avs n1 e1 R1 rs q => ⟨W, n1, ρ, _, hK, R1, q, fun ws H2 aws n2 e2 R2 rw q => ?_⟩⟩
  try dsimp only at q
  split at q
  · next bs hb =>
    have rr := hA W ρ σ H H2 vs ws avs aws (rs.mono R1 e2) (rw.early R e1)
    refine ⟨callW W ρ σ H2, n2, bs, AQ, hK, rfl, begins_call R2, args_rep R2 rr hb, q, fun v H' av n' r q => ?_⟩
    obtain ⟨e3, R3, r3⟩ := ret_call R2 r
    exact (k.late R (e1.trans e2)) v H' av n' e3 R3 r3 q
  · exact q.elim
end
end Ab
set_option Elab.async false
set_option linter.all false
set_option maxRecDepth 100000
set_option maxHeartbeats 4000000
/-! AbI: + of any kind, repr of a bool, defs by their names. -/
namespace Ab
open PySem PySem.Spec PyProof.Rows L2

/-! ### + -/
def rAddA (K : PySem.W.Frag) : R2 := fun x y H Q => rI0 (fun i j => .int (i + j)) x y H Q ∨ rCatLA K x y H Q
def arAdd : AR2 := fun x y n Q => match x.d, y.d with
  | .int i, .int j => Q (.st (.int (i + j))) n
  | .lst ds, .lst es => ds.length + es.length ≤ 100000 ∧ Q (.fr (ds ++ es)) n
  | .tup ds, .tup es => ds.length + es.length ≤ 100000 ∧ Q (.st (.tup (ds ++ es))) n
  | _, _ => False
theorem op_addA {X : Cx} : OpR X (binaryOp .Add) (rAddA X.K) := op_add.or op_catLA
theorem sr_add {K : PySem.W.Frag} : SimR2 K (rAddA K) arAdd := by
  intro W n ρ σ H0 H x y ax ay AQ Q hK R rx ry h k
  unfold arAdd at h
  split at h
  · next i j h1 h2 => exact .inl ⟨i, j, rx.int_of h1, ry.int_of h2, k.int R h⟩
  · next ds es h1 h2 => exact .inr (sr_cat W n ρ σ H0 H x y ax ay AQ Q hK R rx ry (by unfold arCat; rw [h1, h2]; exact h) k)
  · next ds es h1 h2 => exact .inr (sr_cat W n ρ σ H0 H x y ax ay AQ Q hK R rx ry (by unfold arCat; rw [h1, h2]; exact h) k)
  · exact h.elim
def arNeg : AV → Nat → (AV → Nat → Prop) → Prop := fun x n Q => match x.d with
  | .int i => Q (.st (.int (-i))) n
  | _ => False
def aUn (ar : AV → Nat → (AV → Nat → Prop) → Prop) (ae : AE) : AE := fun ρ n Q => ae ρ n fun x n1 => ar x n1 Q
theorem ae_neg {X : Cx} {e : Expr} {ae : AE} {pos : Pos} (he : AEx X e ae) : AEx X (.UnaryOp .USub e pos) (aUn arNeg ae) := by
  refine (pe_un un_neg he).imp fun σ H Q ⟨W, n, ρ, AQ, hK, R, h, k⟩ => ?_
  refine ⟨W, n, ρ, _, hK, R, h, fun v H1 av n1 e1 R1 r q => ?_⟩
  unfold arNeg at q
  split at q
  · next i hi => exact ⟨i, r.int_of hi, (k.late R e1).int R1 q⟩
  · exact q.elim

/-! ### in -/
section
variable {K : PySem.W.Frag}
theorem sr_inD : SimR2 K (rInD K) (arInD false) := by
  intro W n ρ σ H0 H x y ax ay AQ Q hK R rx ry h k
  subst hK
  unfold arInD at h
  split at h
  · next ds hd =>
    obtain ⟨p1, p2, s1, s2, q⟩ := h
    obtain ⟨a, xs, rfl, h1, h2⟩ := ry.items hd
    exact ⟨_, pyAll ds, (rx.now (ne_pn p1)).dp p1, .lst (.inl (.inl h1)) ((h2.mono off_le).dp p2), s1, s2, k.bl R q⟩
  · exact h.elim
theorem sr_niD : SimR2 K (rNotInD K) (arInD true) := by
  intro W n ρ σ H0 H x y ax ay AQ Q hK R rx ry h k
  subst hK
  unfold arInD at h
  split at h
  · next ds hd =>
    obtain ⟨p1, p2, s1, s2, q⟩ := h
    obtain ⟨a, xs, rfl, h1, h2⟩ := ry.items hd
    exact ⟨_, pyAll ds, (rx.now (ne_pn p1)).dp p1, .lst (.inl (.inl h1)) ((h2.mono off_le).dp p2), s1, s2, k.bl R q⟩
  · exact h.elim
end

/-! ### repr of a bool -/
def rReprB : List V → Hp → VK → Prop := fun vs H Q => ∃ b : Bool, vs = [.bl b] ∧ Q (.str (if b then "True" else "False")) H
theorem cr_reprB {X : Cx} : CallR X (.builtin "repr") rReprB := by
  intro pins s σ H vs us Q I r h
  obtain ⟨b, rfl, q⟩ := h
  cases r with
  | cons r t =>
    cases t
    cases r
    exact PySem.P.repr_of_bool ⟨.str _, H, I.tok _, ⟨_, rfl⟩, q⟩
def arReprB : ARn := fun avs n Q => match avs with
  | [x] => match x.d with
    | .bl b => Q (.st (.str (if b then "True" else "False"))) n
    | _ => False
  | _ => False
theorem sn_reprB {K : PySem.W.Frag} : SimRn K rReprB arReprB := by
  intro W n ρ σ H0 H vs avs AQ Q hK R rs h k
  unfold arReprB at h
  split at h
  · obtain ⟨v, rfl, r⟩ := rs.one
    split at h
    · next b hb =>
      rw [r.bl_of hb]
      exact ⟨b, rfl, k.str R h⟩
    · exact h.elim
  · exact h.elim

/-! ### defs by name -/
structure Cal (P : Program) (w : World) (K : PySem.W.Frag) (mg : Str → Option Value) (base : Heap) (k : Nat) (x : Str) (ps : List Str) (asp : ASp) : Prop where
  ex : ∃ (f : Addr) (fd : FuncData), FnOk P w K mg base CX0 k f fd ps (spA K asp) ∧ mg x = some (.ref f) ∧ PySem.W.keepIn K (.ref f) = true ∧ Binds K fd ps []
section
variable {X : Cx} {k j : Nat} {ps : List Str} {asp : ASp} {x : Str} {p pos : Pos} {e : Expr} {es : List Expr} {aa ak : AA} {kws : List Keyword}
theorem ae_f (c : Cal X.prog X.w X.K X.mg X.base k x ps asp) (hr : Room j X.A) (hk : k ≤ j) (hg : Gl X x) (ha : AAx X (e :: es) aa) (hdb : (x == ("__debug__" : Str)) = false := by decide) (he : starEach (e :: es) X.env = (false, eval e X.env) :: starEach es X.env := by rfl)
    (hpl : (backTo pos (starEach es X.env)).any (·.1) = false := by rfl) : AEx X (.Call (.Name x p) (e :: es) [] pos) (aCall asp aa) := by
  obtain ⟨f, fd, F, hm, kp, hb⟩ := c.ex
  exact ae_call F (hr.mono hk) hg hm kp hb ha hdb he hpl
end
/-- f(k = v, ..), nothing positional: how the keywords' values lie behind the parameters -/
structure KB0 (fd : FuncData) (ps ks : List Str) (g : {α : Type} → List α → List α) : Prop where
  to : ∀ ws : List Value, (g ws).length = ps.length → bindArgs fd ⟨[], ks.zip ws⟩ = pure (ps.zip (g ws))
def tCallK0 (sp : Sp) (g : List V → List V) (E : XK) (tk : TA) : TE := fun σ H Q => tk σ H fun zs H2 => sp (g zs) H2 Q E
theorem pe_callK0 {X : Cx} {CX : CXT} {k : Nat} {f : Addr} {fd : FuncData} {ps ks : List Str} {sp : Sp} {E : XK} {x : Str} {p pos : Pos} {kws : List Keyword} {tk : TA} {g : {α : Type} → List α → List α} (F : FnOk X.prog X.w X.K X.mg X.base CX k f fd ps sp) (hr : Room k X.A) (hg : Gl X x) (hm : X.mg x = some (.ref f))
    (hk : PySem.W.keepIn X.K (.ref f) = true) (hb : KB0 fd ps ks g) (hrel : ∀ {vs : List V} {us : List Value}, Vals vs us → Vals (g vs) (g us)) (hx : Passes CX X E)
    (hkw : PK X kws tk) (hall : (backToKw pos (keywordEach kws X.env)).all (·.1.isSome) = true := by rfl) (hks : (backToKw pos (keywordEach kws X.env)).filterMap (·.1) = ks := by rfl)
    (hdb : (x == ("__debug__" : Str)) = false := by decide) (hpl : ((backTo pos (starEach [] X.env)).any (·.1) || (backToKw pos (keywordEach kws X.env)).any (·.1.isNone)) = false := by rfl) :
    PE X (.Call (.Name x p) [] kws pos) (tCallK0 sp g E tk) := by
  refine ⟨fun pins s σ H Q I h => ?_⟩
  refine wpAny_Call_Name_kw (ld_glob I hg hm ?_ hdb)
  refine PySem.W.callWith_KW0 (h₀ := X.base) I.ok.mod.kin hk hall (thn (hkw.run pos pins s σ H _ I h) fun ws s2 ⟨zs, H2, I2, rz, q2⟩ => ⟨I2.kIn, ?_⟩) hpl
  rw [hks]
  have r2 : Vals (g zs) (g ws) := hrel rz
  have hl : (g ws).length = ps.length := by rw [← r2.length]; exact F.len _ _ _ _ q2
  refine wpAny_call (codeAny_mono (F.run X.A X.stack s2 H2 ⟨[] ++ [], ks.zip ws⟩ (g ws) (g zs) Q E hr I2.env0 (.of_eq (hb.to ws hl)) r2 q2) fun r s' hq => ?_)
  cases r with
  | error e => exact hx pins σ H2 s2 e s' I2 hq
  | ok fl =>
    cases fl with
    | ret u => exact I2.after hq
    | next => exact False.elim hq
    | brk => exact False.elim hq
    | cont => exact False.elim hq
def aCallK0 (asp : ASp) (g : List AV → List AV) (ak : AA) : AE := fun ρ n Q => ak ρ n fun aks n1 => match argAll (g aks) with
  | some bs => asp bs n1 Q
  | none => False
theorem ae_callK0 {X : Cx} {k : Nat} {f : Addr} {fd : FuncData} {ps ks : List Str} {asp : ASp} {x : Str} {p pos : Pos} {kws : List Keyword} {ak : AA} {g : {α : Type} → List α → List α} (F : FnOk X.prog X.w X.K X.mg X.base CX0 k f fd ps (spA X.K asp)) (hr : Room k X.A) (hg : Gl X x) (hm : X.mg x = some (.ref f))
    (hk : PySem.W.keepIn X.K (.ref f) = true) (hb : KB0 fd ps ks g) (hrel : ∀ {vs : List V} {us : List Value}, Vals vs us → Vals (g vs) (g us)) (hA : ∀ (W : Wd) (ρ : Env) (σ : L2.St) (H0 H : Hp) (vs : List V) (as : List AV), RepAVs W ρ σ H0 H vs as → RepAVs W ρ σ H0 H (g vs) (g as))
    (hkw : AKx X kws ak) (hall : (backToKw pos (keywordEach kws X.env)).all (·.1.isSome) = true := by rfl) (hks : (backToKw pos (keywordEach kws X.env)).filterMap (·.1) = ks := by rfl)
    (hdb : (x == ("__debug__" : Str)) = false := by decide) (hpl : ((backTo pos (starEach [] X.env)).any (·.1) || (backToKw pos (keywordEach kws X.env)).any (·.1.isNone)) = false := by rfl) :
    AEx X (.Call (.Name x p) [] kws pos) (aCallK0 asp g ak) := by
  refine (pe_callK0 F hr hg hm hk hb hrel pass0 hkw hall hks hdb hpl).imp fun σ H Q ⟨W, n, ρ, AQ, hK, R, h, k⟩ => ?_
  refine ⟨W, n, ρ, _, hK, R, h, fun ws H2 aws n2 e2 R2 rw q => ?_⟩
  try dsimp only at q
  split at q
  · next bs hb =>
    refine ⟨callW W ρ σ H2, n2, bs, AQ, hK, rfl, begins_call R2, args_rep R2 (hA W ρ σ H H2 ws aws rw) hb, q, fun v H' av n' r q => ?_⟩
    obtain ⟨e3, R3, r3⟩ := ret_call R2 r
    exact (k.late R e2) v H' av n' e3 R3 r3 q
  · exact q.elim
structure CalK (P : Program) (w : World) (K : PySem.W.Frag) (mg : Str → Option Value) (base : Heap) (k : Nat) (x : Str) (ps ks : List Str) (g : {α : Type} → List α → List α) (asp : ASp) : Prop where
  ex : ∃ (f : Addr) (fd : FuncData), FnOk P w K mg base CX0 k f fd ps (spA K asp) ∧ mg x = some (.ref f) ∧ PySem.W.keepIn K (.ref f) = true ∧ KB0 fd ps ks g
theorem vals_rev {vs : List V} {us : List Value} (h : Vals vs us) : Vals vs.reverse us.reverse := by
  have go : ∀ {vs : List V} {us : List Value}, Vals vs us → ∀ {ws : List V} {zs : List Value}, Vals ws zs → Vals (vs.reverseAux ws) (us.reverseAux zs) := by
    intro vs us h
    induction h with
    | nil => intro ws zs h; exact h
    | cons r _ ih => intro ws zs h; exact ih (.cons r h)
  exact go h .nil
theorem repavs_rev {W : Wd} {ρ : Env} {σ : L2.St} {H0 H : Hp} {vs : List V} {as : List AV} (h : RepAVs W ρ σ H0 H vs as) : RepAVs W ρ σ H0 H vs.reverse as.reverse := by
  have go : ∀ {vs : List V} {us : List AV}, RepAVs W ρ σ H0 H vs us → ∀ {ws : List V} {zs : List AV}, RepAVs W ρ σ H0 H ws zs → RepAVs W ρ σ H0 H (vs.reverseAux ws) (us.reverseAux zs) := by
    intro vs us h
    induction h with
    | nil => intro ws zs h; exact h
    | cons r _ ih => intro ws zs h; exact ih (.cons r h)
  exact go h .nil
abbrev gId : {α : Type} → List α → List α := fun l => l
abbrev gRev : {α : Type} → List α → List α := fun l => l.reverse
section
variable {X : Cx} {k j : Nat} {ps ks : List Str} {asp : ASp} {x : Str} {p pos : Pos} {ak : AA} {kws : List Keyword}
theorem ae_fK (c : CalK X.prog X.w X.K X.mg X.base k x ps ks gId asp) (hr : Room j X.A) (hk : k ≤ j) (hg : Gl X x) (hkw : AKx X kws ak) (hall : (backToKw pos (keywordEach kws X.env)).all (·.1.isSome) = true := by rfl) (hks : (backToKw pos (keywordEach kws X.env)).filterMap (·.1) = ks := by rfl)
    (hdb : (x == ("__debug__" : Str)) = false := by decide) (hpl : ((backTo pos (starEach [] X.env)).any (·.1) || (backToKw pos (keywordEach kws X.env)).any (·.1.isNone)) = false := by rfl) :
    AEx X (.Call (.Name x p) [] kws pos) (aCallK0 asp (fun l => l) ak) := by
  obtain ⟨f, fd, F, hm, kp, hb⟩ := c.ex
  exact ae_callK0 F (hr.mono hk) hg hm kp hb (fun h => h) (fun _ _ _ _ _ _ _ h => h) hkw hall hks hdb hpl
theorem ae_fKr (c : CalK X.prog X.w X.K X.mg X.base k x ps ks gRev asp) (hr : Room j X.A) (hk : k ≤ j) (hg : Gl X x) (hkw : AKx X kws ak) (hall : (backToKw pos (keywordEach kws X.env)).all (·.1.isSome) = true := by rfl) (hks : (backToKw pos (keywordEach kws X.env)).filterMap (·.1) = ks := by rfl)
    (hdb : (x == ("__debug__" : Str)) = false := by decide) (hpl : ((backTo pos (starEach [] X.env)).any (·.1) || (backToKw pos (keywordEach kws X.env)).any (·.1.isNone)) = false := by rfl) :
    AEx X (.Call (.Name x p) [] kws pos) (aCallK0 asp (fun l => l.reverse) ak) := by
  obtain ⟨f, fd, F, hm, kp, hb⟩ := c.ex
  exact ae_callK0 F (hr.mono hk) hg hm kp hb (fun h => vals_rev h) (fun _ _ _ _ _ _ _ h => repavs_rev h) hkw hall hks hdb hpl
end
end Ab
set_option Elab.async false
set_option linter.all false
set_option maxRecDepth 100000
set_option maxHeartbeats 4000000
/-! AbJ: short names of operators; the pen. -/
namespace Ab
open PySem PySem.Spec PyProof.Rows L2

abbrev arSub : AR2 := arI0 fun i j => i - j
abbrev arMul : AR2 := arII CMulW fun i j => i * j
abbrev arDiv : AR2 := arII CDivW fun i j => i / j
abbrev arMod : AR2 := arII (fun _ j => 0 < j) fun i j => i % j
abbrev arPow : AR2 := arII CPow fun i j => i ^ j.toNat
abbrev arLt : AR2 := arIB fun i j => decide (i < j)
abbrev arLe : AR2 := arIB fun i j => decide (i ≤ j)
abbrev arGt : AR2 := arIB fun i j => decide (j < i)
abbrev arGe : AR2 := arIB fun i j => decide (j ≤ i)
section
variable {K : PySem.W.Frag}
theorem sr_sub : SimR2 K (rI0 fun i j => .int (i - j)) arSub := sr_I0
theorem sr_mulW : SimR2 K (rI CMulW fun i j => .int (i * j)) arMul := sr_II
theorem sr_divW : SimR2 K (rI CDivW fun i j => .int (i / j)) arDiv := sr_II
theorem sr_mod : SimR2 K (rI (fun _ j => 0 < j) fun i j => .int (i % j)) arMod := sr_II
theorem sr_pow : SimR2 K (rI CPow fun i j => .int (i ^ j.toNat)) arPow := sr_II
theorem sr_lt : SimR2 K (rI0 fun i j => .bl (decide (i < j))) arLt := sr_IB
theorem sr_le : SimR2 K (rI0 fun i j => .bl (decide (i ≤ j))) arLe := sr_IB
theorem sr_gt : SimR2 K (rI0 fun i j => .bl (decide (j < i))) arGt := sr_IB
theorem sr_ge : SimR2 K (rI0 fun i j => .bl (decide (j ≤ i))) arGe := sr_IB
end
theorem hu65 {k : Nat} {A : Around} (hr : Room k A) : A.units + 65 < cLine := by
  have := hr.un
  omega
section
variable {X : Cx} {a b : Expr} {aa ab : AE} {pos : Pos}
/-- a[b] -/
theorem ae_ix (ha : AEx X a aa) (hb : AEx X b ab) (hs : PlainIx b := by intro _ _; rfl) : AEx X (.Subscript a b pos) (aOp arIx aa ab) := (pe_ix ix_seq ha hb hs).imp (sim_op sr_ix)
end
end Ab
set_option Elab.async false
set_option linter.all false
set_option maxRecDepth 100000
set_option maxHeartbeats 4000000
/-! AbK: how readings over data are shown: sizes of ints, comprehensions that map, loops that fold. -/
namespace Ab
open PySem PySem.Spec PyProof.Rows L2

theorem and2 {A B : Prop} (a : A) (b : B) : A ∧ B := ⟨a, b⟩
/-! ### sizes -/
def Lb (k : Nat) (x : Int) : Prop := x.natAbs < 2 ^ k
theorem Lb.mono {j k : Nat} {x : Int} (h : Lb j x) (hjk : j ≤ k) : Lb k x := Nat.lt_of_lt_of_le h (Nat.pow_le_pow_right (by decide) hjk)
theorem Lb.add {k : Nat} {x y : Int} (h : Lb k x) (h2 : Lb k y) : Lb (k + 1) (x + y) := by
  unfold Lb at *
  rw [Nat.pow_succ]
  omega
theorem Lb.sub {k : Nat} {x y : Int} (h : Lb k x) (h2 : Lb k y) : Lb (k + 1) (x - y) := by
  unfold Lb at *
  rw [Nat.pow_succ]
  omega
theorem Lb.mul {j k : Nat} {x y : Int} (h : Lb j x) (h2 : Lb k y) : Lb (j + k) (x * y) := wide_lt h h2
theorem Lb.neg {k : Nat} {x : Int} (h : Lb k x) : Lb k (-x) := by
  unfold Lb at *
  omega
theorem cmul {j k : Nat} {x y : Int} (h : Lb j x) (h2 : Lb k y) (h0 : 0 < j := by decide) (h1 : 0 < k := by decide) (h3 : j + k ≤ 1000000 := by decide) : CMulW x y := wide_mul h h2 h0 h1 h3
theorem cdiv {k : Nat} {x y : Int} (h : 0 < y) (h2 : Lb k y) (h0 : 0 < k := by decide) (h3 : k ≤ 9000 := by decide) : CDivW x y := wide_div h h2 h0 h3

/-! ### comprehensions -/
theorem lc_run {ai : AI} {g : AG} {ae : AE} {vs : List Nat} {ρ : Env} {n : Nat} {Q : AV → Nat → Prop} (ds : List D) (es : List D) (hi : ∀ R : List D → Nat → Prop, R ds n → ai ρ n R) (hn : noOwn ρ vs = true) (hl : ds.length < 100000) (he : es.length = ds.length)
    (hf : ∀ (i : Nat) d e, ds[i]? = some d → es[i]? = some e → ∀ (k : AV → Nat → Prop) (k2 : Prop), (∀ av, stOne av = some e → k av n) → g d (wipeA ρ vs) fun ρ2 => br true (ae ρ2 n k) k2) (hQ : Q (.fr es) n) : aLc ai g aYes ae vs ρ n Q := by
  refine hi _ ⟨hn, hl, fun i acc m => m = n ∧ acc = es.take i, ⟨rfl, rfl⟩, ?_, ?_⟩
  · rintro i d acc m hd ⟨rfl, rfl⟩
    have hlt : i < es.length := by
      rw [he]
      exact (List.getElem?_eq_some_iff.mp hd).1
    have hei : es[i]? = some es[i] := List.getElem?_eq_getElem hlt
    have q := hf i d es[i] hd hei (fun av n3 => ∃ e, stOne av = some e ∧ (n3 = m ∧ es.take i ++ [e] = es.take (i + 1))) (m = m ∧ es.take i = es.take (i + 1)) fun av hav => ⟨_, hav, rfl, by rw [List.take_add_one, hei]; rfl⟩
    exact q
  · rintro acc m ⟨rfl, rfl⟩
    rw [← he, List.take_length]
    exact hQ
/-- .. with a test: the kept ones -/
theorem lc_filter {ai : AI} {g : AG} {tt : AT} {ae : AE} {vs : List Nat} {ρ : Env} {n : Nat} {Q : AV → Nat → Prop} (ds : List D) (p : D → Bool) (f : D → D) (hi : ∀ R : List D → Nat → Prop, R ds n → ai ρ n R) (hn : noOwn ρ vs = true) (hl : ds.length < 100000)
    (hf : ∀ d ∈ ds, ∀ (k1 k2 : Nat → Prop), (p d = true → k1 n) → (p d = false → k2 n) → ∀ ko : AV → Nat → Prop, (∀ av, stOne av = some (f d) → k1 n → ko av n) →
      g d (wipeA ρ vs) fun ρ2 => tt ρ2 n fun b n2 => br b (ae ρ2 n2 ko) (k2 n2)) (hQ : Q (.fr ((ds.filter p).map f)) n) : aLc ai g tt ae vs ρ n Q := by
  refine hi _ ⟨hn, hl, fun i acc m => m = n ∧ acc = ((ds.take i).filter p).map f, ⟨rfl, rfl⟩, ?_, ?_⟩
  · rintro i d acc m hd ⟨rfl, rfl⟩
    have hlt := (List.getElem?_eq_some_iff.mp hd).1
    have e : ds.take (i + 1) = ds.take i ++ [d] := by
      rw [List.take_add_one, hd]
      rfl
    refine hf d (List.mem_of_getElem? hd) (fun n' => p d = true ∧ n' = m) (fun n2 => n2 = m ∧ ((ds.take i).filter p).map f = ((ds.take (i + 1)).filter p).map f) (fun h => ⟨h, rfl⟩) (fun h => ⟨rfl, ?_⟩)
      (fun av n3 => ∃ e, stOne av = some e ∧ (n3 = m ∧ ((ds.take i).filter p).map f ++ [e] = ((ds.take (i + 1)).filter p).map f)) (fun av hav ⟨h, _⟩ => ⟨_, hav, rfl, ?_⟩)
    · rw [e, List.filter_append, List.map_append]
      simp [h]
    · rw [e, List.filter_append, List.map_append]
      simp [h]
  · rintro acc m ⟨rfl, rfl⟩
    rw [List.take_length]
    exact hQ
theorem zipD_ints : ∀ (xs ys : List Int), zipD (xs.map D.int) (ys.map D.int) = (xs.zip ys).map fun z => D.tup [.int z.1, .int z.2] := by
  intro xs ys
  unfold zipD
  rw [List.zip_map, List.map_map]
  rfl
theorem plain_ints : ∀ ns : List Int, plainAll (ns.map D.int) = true
  | [] => rfl
  | n :: ns => by
    show ((D.int n).plain && plainAll (ns.map D.int)) = true
    rw [plain_ints ns]
    rfl
end Ab
set_option Elab.async false
set_option linter.all false
set_option maxRecDepth 100000
set_option maxHeartbeats 4000000
/-! AbL: == and in over data of ints, strings, lists and tuples of a bounded depth. -/
namespace Ab
open PySem PySem.Spec PyProof.Rows L2

/-- ints and well formed strings, nested in lists and tuples at most k deep -/
def itk : Nat → D → Bool
  | _, .int _ => true
  | _, .str x => PySem.PyData.canLay0 (.str x)
  | k + 1, .tup ds => ds.all (itk k)
  | k + 1, .lst ds => ds.all (itk k)
  | _, _ => false
theorem itk_plain : ∀ k d, itk k d = true → d.plain = true := by
  have all : ∀ k, (∀ d, itk k d = true → d.plain = true) → ∀ ds : List D, ds.all (itk k) = true → plainAll ds = true := by
    intro k ih ds
    induction ds with
    | nil => intro _; rfl
    | cons d ds hi =>
      intro h
      rw [List.all_cons, Bool.and_eq_true] at h
      show (d.plain && plainAll ds) = true
      rw [ih d h.1, hi h.2]
      rfl
  intro k
  induction k with
  | zero => intro d h; cases d <;> first | rfl | (exact absurd h Bool.false_ne_true)
  | succ k ih =>
    intro d h
    cases d with
    | int i => rfl
    | str x => rfl
    | tup ds => exact (by rw [D.plain]; exact all k ih ds h)
    | lst ds => exact (by rw [D.plain]; exact all k ih ds h)
    | _ => exact absurd h Bool.false_ne_true
theorem itk_plainAll {k : Nat} {ds : List D} (h : ds.all (itk k) = true) : plainAll ds = true := by
  have := itk_plain (k + 1) (.lst ds) h
  rw [D.plain] at this
  exact this
theorem itk_lay : ∀ k d, itk k d = true → d.py.canLay0 = true ∧ d.py.depth ≤ k + 1 := by
  have all : ∀ k, (∀ d, itk k d = true → d.py.canLay0 = true ∧ d.py.depth ≤ k + 1) → ∀ ds : List D, ds.all (itk k) = true → PyData.canLayAll0 (pyAll ds) = true ∧ PyData.depthAll (pyAll ds) ≤ k + 1 := by
    intro k ih ds
    induction ds with
    | nil => intro _; exact ⟨rfl, Nat.zero_le _⟩
    | cons d ds hi =>
      intro h
      rw [List.all_cons, Bool.and_eq_true] at h
      have h1 := ih d h.1
      have h2 := hi h.2
      show (d.py.canLay0 && PyData.canLayAll0 (pyAll ds)) = true ∧ max d.py.depth (PyData.depthAll (pyAll ds)) ≤ k + 1
      rw [h1.1, h2.1]
      exact ⟨rfl, Nat.max_le.mpr ⟨h1.2, h2.2⟩⟩
  intro k
  induction k with
  | zero =>
    intro d h
    cases d with
    | int i => exact ⟨rfl, by simp [D.py, PyData.depth]⟩
    | str x => exact ⟨h, by simp [D.py, PyData.depth]⟩
    | _ => exact absurd h Bool.false_ne_true
  | succ k ih =>
    intro d h
    cases d with
    | int i => exact ⟨rfl, by simp [D.py, PyData.depth]⟩
    | str x => exact ⟨h, by simp [D.py, PyData.depth]⟩
    | tup ds =>
      have q := all k ih ds h
      refine ⟨by simp only [D.py, PyData.canLay0, q.1], ?_⟩
      have q2 := q.2
      simp only [D.py, PyData.depth]
      omega
    | lst ds =>
      have q := all k ih ds h
      refine ⟨by simp only [D.py, PyData.canLay0, q.1], ?_⟩
      have q2 := q.2
      simp only [D.py, PyData.depth]
      omega
    | _ => exact absurd h Bool.false_ne_true
theorem itk_shaped {k : Nat} {d : D} (h : itk k d = true) (hk : k + 1 ≤ 64 := by decide) : SeqAt.shaped d.py = true := by
  have q := itk_lay k d h
  unfold SeqAt.shaped
  rw [q.1, decide_eq_true (by omega)]
  rfl
theorem itk_eqv : ∀ (k : Nat) (d e : D) (j : Nat), itk k d = true → itk j e = true → (PyData.eqv d.py e.py = true ↔ d = e) := by
  have all : ∀ k, (∀ (d e : D) (j : Nat), itk k d = true → itk j e = true → (PyData.eqv d.py e.py = true ↔ d = e)) → ∀ (j : Nat) (ds es : List D), ds.all (itk k) = true → es.all (itk j) = true → (PyData.eqvAll (pyAll ds) (pyAll es) = true ↔ ds = es) := by
    intro k ih j ds
    induction ds with
    | nil => intro es _ _; cases es <;> simp [pyAll, PyData.eqvAll]
    | cons d ds hi =>
      intro es h1 h2
      cases es with
      | nil => simp [pyAll, PyData.eqvAll]
      | cons e es =>
        rw [List.all_cons, Bool.and_eq_true] at h1 h2
        have q1 := ih d e j h1.1 h2.1
        have q2 := hi es h1.2 h2.2
        simp only [pyAll, PyData.eqvAll, Bool.and_eq_true, q1, q2, List.cons.injEq]
  intro k
  induction k with
  | zero =>
    intro d e j h1 h2
    cases d with
    | int i => cases e <;> cases j <;> simp_all [itk, D.py, PyData.eqv]
    | str i => cases e <;> cases j <;> simp_all [itk, D.py, PyData.eqv]
    | _ => exact absurd h1 Bool.false_ne_true
  | succ k ih =>
    intro d e j h1 h2
    cases d with
    | int i => cases e <;> cases j <;> simp_all [itk, D.py, PyData.eqv]
    | str i => cases e <;> cases j <;> simp_all [itk, D.py, PyData.eqv]
    | tup ds =>
      cases e with
      | tup es =>
        cases j with
        | zero => exact absurd h2 Bool.false_ne_true
        | succ j =>
          have q := all k ih j ds es h1 h2
          simp only [D.py, PyData.eqv, q, D.tup.injEq]
      | _ => cases j <;> simp_all [itk, D.py, PyData.eqv]
    | lst ds =>
      cases e with
      | lst es =>
        cases j with
        | zero => exact absurd h2 Bool.false_ne_true
        | succ j =>
          have q := all k ih j ds es h1 h2
          simp only [D.py, PyData.eqv, q, D.lst.injEq]
      | _ => cases j <;> simp_all [itk, D.py, PyData.eqv]
    | _ => exact absurd h1 Bool.false_ne_true
theorem itk_eqv_dec {k j : Nat} {d e : D} {p : Prop} [Decidable p] (h1 : itk k d = true) (h2 : itk j e = true) (hp : d = e ↔ p) : PyData.eqv d.py e.py = decide p := by
  have h := itk_eqv k d e j h1 h2
  rw [hp] at h
  by_cases q : p
  · rw [h.mpr q, decide_eq_true q]
  · rw [decide_eq_false q]
    cases hb : PyData.eqv d.py e.py with
    | false => rfl
    | true => exact absurd (h.mp hb) q
theorem itk_any {k j : Nat} {d : D} (h2 : itk j d = true) : ∀ (ds : List D) (p : Prop) [Decidable p], ds.all (itk k) = true → (d ∈ ds ↔ p) → (pyAll ds).any (fun z => PyData.eqv z d.py) = decide p := by
  intro ds p _ h hp
  have key : ∀ ds : List D, ds.all (itk k) = true → ((pyAll ds).any (fun z => PyData.eqv z d.py) = true ↔ d ∈ ds) := by
    intro ds
    induction ds with
    | nil => intro _; simp [pyAll]
    | cons e ds hi =>
      intro h
      rw [List.all_cons, Bool.and_eq_true] at h
      have q := itk_eqv k e d j h.1 h2
      have q2 := hi h.2
      rw [pyAll, List.any_cons, Bool.or_eq_true, q, q2, List.mem_cons]
      exact ⟨fun z => z.imp Eq.symm id, fun z => z.imp Eq.symm id⟩
  have q := key ds h
  rw [hp] at q
  by_cases z : p
  · rw [q.mpr z, decide_eq_true z]
  · rw [decide_eq_false z]
    cases hb : (pyAll ds).any (fun z => PyData.eqv z d.py) with
    | false => rfl
    | true => exact absurd (q.mp hb) z
/-- == by sense -/
theorem eq_itk {k j : Nat} {d e : D} {n : Nat} {Q : AV → Nat → Prop} {p : Prop} [Decidable p] (h1 : itk k d = true) (h2 : itk j e = true) (hp : d = e ↔ p) (q : Q (.st (.bl (decide p))) n) {x y : AV} (hx : x.d = d := by rfl) (hy : y.d = e := by rfl) (hk : k + 1 ≤ 64 := by decide) (hj : j + 1 ≤ 64 := by decide) : arEqD false x y n Q := by
  subst hx hy
  refine ⟨itk_plain _ _ h1, itk_plain _ _ h2, itk_shaped h1 hk, itk_shaped h2 hj, ?_⟩
  rw [itk_eqv_dec h1 h2 hp]
  exact q
theorem ne_itk {k j : Nat} {d e : D} {n : Nat} {Q : AV → Nat → Prop} {p : Prop} [Decidable p] (h1 : itk k d = true) (h2 : itk j e = true) (hp : d = e ↔ p) (q : Q (.st (.bl (!decide p))) n) {x y : AV} (hx : x.d = d := by rfl) (hy : y.d = e := by rfl) (hk : k + 1 ≤ 64 := by decide) (hj : j + 1 ≤ 64 := by decide) : arEqD true x y n Q := by
  subst hx hy
  refine ⟨itk_plain _ _ h1, itk_plain _ _ h2, itk_shaped h1 hk, itk_shaped h2 hj, ?_⟩
  rw [itk_eqv_dec h1 h2 hp]
  exact q
theorem nin_itk {k j : Nat} {d : D} {ds : List D} {n : Nat} {Q : AV → Nat → Prop} {p : Prop} [Decidable p] (h1 : itk k d = true) (h2 : ds.all (itk j) = true) (hp : d ∈ ds ↔ p) (q : Q (.st (.bl (!decide p))) n) {x y : AV} (hx : x.d = d := by rfl) (hy : y.d = .lst ds := by rfl) (hk : k + 1 ≤ 64 := by decide) (hj : j + 2 ≤ 64 := by decide) : arInD true x y n Q := by
  subst hx
  unfold arInD
  rw [hy]
  refine ⟨itk_plain _ _ h1, itk_plainAll h2, itk_shaped h1 hk, ?_, ?_⟩
  · have := itk_shaped (k := j + 1) (d := .lst ds) h2 (by omega)
    rw [D.py] at this
    exact this
  · rw [itk_any h1 ds p h2 hp]
    exact q
end Ab
set_option Elab.async false
set_option linter.all false
set_option maxRecDepth 100000
set_option maxHeartbeats 8000000
/-! K58: mirrors of the defs, and what each promises. -/
namespace K58
open PySem PySem.Spec PyProof.Rows L2 Ab
def topS (i : Nat) : Stmt := PySem.Challenge.pw_termmaps_k58_borders_by_their_words.main.body.getD i (.Pass ⟨0, 0, 0, 0⟩)
structure Fx (mg : Str → Option Value) : Prop where
  b_zip : mg "zip" = none
  b_max : mg "max" = none
  b_repr : mg "repr" = none
  b_len : mg "len" = none
  b_list : mg "list" = none
  b_sum : mg "sum" = none
  b_all : mg "all" = none
  b_tuple : mg "tuple" = none
  b_abs : mg "abs" = none
  b_range : mg "range" = none
  b_min : mg "min" = none
  b_int : mg "int" = none
  b_gcd : mg "gcd" = some (.builtin "math.gcd")

/-! ### mirrors -/
abbrev Pt := Int × List Int
def tupI (ns : List Int) : D := .tup (ns.map D.int)
def ptD (p : Pt) : D := .tup [.int p.1, tupI p.2]
/-- a list of points: a list, else a tuple -/
def seqP (b : Bool) (l : List Pt) : D := if b = true then .lst (l.map ptD) else .tup (l.map ptD)
def PB (k : Nat) (p : Pt) : Prop := Lb k p.1 ∧ ∀ x ∈ p.2, Lb k x
def dot (xs ys : List Int) : Int := ((xs.zip ys).map fun z => z.1 * z.2).sum
def val (p x : Pt) : Int := p.1 * x.1 + dot p.2 x.2
def gcdN (ns : List Int) : Nat := ns.foldl (fun g x => Nat.gcd g x.natAbs) 0
def low (p : Pt) : Pt := (p.1 / (gcdN (p.1 :: p.2) : Int), p.2.map fun x => x / (gcdN (p.1 :: p.2) : Int))
def x0 (p : Pt) : Int := p.2.getD 0 0
def x1 (p : Pt) : Int := p.2.getD 1 0
def lineP (p r : Pt) : Pt := (0 - (x0 p * x1 r - x1 p * x0 r), [p.1 * x1 r - x1 p * r.1, 0 - (p.1 * x0 r - x0 p * r.1)])
def strE (p r : Pt) : List Pt := [((x0 r * p.1 - x0 p * r.1) * x0 p + (x1 r * p.1 - x1 p * r.1) * x1 p, [0 - (x0 r * p.1 - x0 p * r.1) * p.1, 0 - (x1 r * p.1 - x1 p * r.1) * p.1]),
  (0 - ((x0 r * p.1 - x0 p * r.1) * x0 r + (x1 r * p.1 - x1 p * r.1) * x1 r), [(x0 r * p.1 - x0 p * r.1) * r.1, (x1 r * p.1 - x1 p * r.1) * r.1])]
def ptB (p : Pt) : List Pt := [(x0 p, [0 - p.1, 0]), (0 - x0 p, [p.1, 0]), (x1 p, [0, 0 - p.1]), (0 - x1 p, [0, p.1])]
def endsP (a b : Pt) : List Pt := [(x0 a, [0 - a.1]), (0 - x0 b, [b.1])]
def negP (p : Pt) : Pt := (0 - p.1, p.2.map fun c => 0 - c)
def rot (l : List Pt) : List Pt := l.drop 1 ++ l.take 1
def found (l : List Pt) : List Pt := match l with
  | [] => []
  | a :: r => if a.2.length = 1 then endsP a ((a :: r).getLastD a) else match r with
    | [] => ptB a
    | [b] => [lineP a b, negP (lineP a b)] ++ strE a b
    | _ => ((a :: r).zip (rot (a :: r))).map fun z => lineP z.1 z.2
def brd (l : List Pt) : List Pt := (found l).map low
/-- what borders is asked of: points of one or two numbers, each way between them something -/
def GoodC (l : List Pt) : Prop := l ≠ [] ∧ l.length ≤ 1000 ∧ (∀ p ∈ l, PB 60 p ∧ 0 < p.1) ∧ ((∀ p ∈ l, p.2.length = 1) ∨ (∀ p ∈ l, p.2.length = 2)) ∧ ∀ p ∈ found l, 0 < gcdN (p.1 :: p.2)

/-! ### promises -/
abbrev Ok1 (f : AV) (args : List AV) (avs : List AV) (n : Nat) (Q : AV → Nat → Prop) : Prop := avs = args ∧ Q f n
def asp_value : ASp := fun avs n Q => ∃ p x : Pt, avs = [.st (ptD p), .st (ptD x)] ∧ PB 2000 p ∧ PB 2000 x ∧ p.2.length ≤ 2 ∧ Q (.st (.int (val p x))) n
def asp_common : ASp := fun avs n Q => ∃ ns : List Int, avs = [.st (.lst (ns.map D.int))] ∧ Q (.st (.int (gcdN ns : Int))) n
def asp_in_lowest : ASp := fun avs n Q => ∃ p : Pt, avs = [.st (.int p.1), .st (tupI p.2)] ∧ PB 2000 p ∧ p.2.length ≤ 2 ∧ 0 < gcdN (p.1 :: p.2) ∧ Q (.st (ptD (low p))) n
def asp_ends_of : ASp := fun avs n Q => ∃ (b : Bool) (a : Pt) (r : List Pt), avs = [.st (seqP b (a :: r))] ∧ (∀ p ∈ a :: r, p.2.length = 1) ∧ Q (.fr ((endsP a ((a :: r).getLastD a)).map ptD)) n
def asp_line_through : ASp := fun avs n Q => ∃ p r : Pt, avs = [.st (ptD p), .st (ptD r)] ∧ PB 60 p ∧ PB 60 r ∧ p.2.length = 2 ∧ r.2.length = 2 ∧ Q (.st (ptD (lineP p r))) n
def asp_stretch_ends : ASp := fun avs n Q => ∃ p r : Pt, avs = [.st (ptD p), .st (ptD r)] ∧ PB 60 p ∧ PB 60 r ∧ p.2.length = 2 ∧ r.2.length = 2 ∧ Q (.fr ((strE p r).map ptD)) n
def asp_point_borders : ASp := fun avs n Q => ∃ p : Pt, avs = [.st (ptD p)] ∧ p.2.length = 2 ∧ Q (.fr ((ptB p).map ptD)) n
def asp_borders : ASp := fun avs n Q => ∃ (b : Bool) (l : List Pt), avs = [.st (seqP b l)] ∧ GoodC l ∧ Q (.fr ((brd l).map ptD)) n
def asp_is_in : ASp := fun avs n Q => ∃ (b : Bool) (l : List Pt) (x : Pt), avs = [.st (seqP b l), .st (ptD x)] ∧ GoodC l ∧ PB 2000 x ∧ Q (.st (.bl ((brd l).all fun p => decide (val p x ≤ 0)))) n
def asp_is_inner : ASp := fun avs n Q => ∃ (b : Bool) (l : List Pt) (x : Pt), avs = [.st (seqP b l), .st (ptD x)] ∧ GoodC l ∧ PB 2000 x ∧ Q (.st (.bl ((brd l).all fun p => decide (val p x < 0)))) n

/-! the law's own -/
def asp__law_draw : ASp := fun avs n Q => ∃ many : Int, avs = [.pn, .st (.int many)] ∧ Lb 8000 many ∧ n < 1000000 ∧ ∀ r : Int, 0 ≤ r → (r < many ∨ r = 0) → Q (.st (.int r)) (n + 1)
def asp__law_pick : ASp := fun avs n Q => ∃ ds : List D, avs = [.pn, .st (.lst ds)] ∧ ds ≠ [] ∧ ds.length ≤ 1000 ∧ n < 1000000 ∧ ∀ d ∈ ds, Q (.st d) (n + 1)
def asp__law_p_gcd : ASp := fun avs n Q => ∃ a b : Int, avs = [.st (.int a), .st (.int b)] ∧ Lb 1400 a ∧ Lb 1400 b ∧ Q (.st (.int (Nat.gcd a.natAbs b.natAbs : Int))) n
/-- the point of numbers by q, above 0 -/
def asp__law_p_point : ASp := fun avs n Q => ∃ (q : Int) (ns : List Int), avs = [.st (.int q), .st (.lst (ns.map D.int))] ∧ 0 < q ∧ Lb 1400 q ∧ (∀ x ∈ ns, Lb 1400 x) ∧ ns.length ≤ 1000 ∧ Q (.st (ptD (low (q, ns)))) n
def asp__law_p_value : ASp := asp_value
def bef : List (Int × Int) → Int → Int → Bool
  | [], _, _ => false
  | (m, i) :: r, q, k => if m * k = i * q then bef r q k else decide (m * k < i * q)
def before (p r : Pt) : Bool := bef (p.2.zip r.2) p.1 r.1
def asp__law_p_before : ASp := fun avs n Q => ∃ p r : Pt, avs = [.st (ptD p), .st (ptD r)] ∧ PB 2000 p ∧ PB 2000 r ∧ p.2.length ≤ 2 ∧ Q (.st (.bl (before p r))) n
def ins (f : List Pt) (p : Pt) : List Pt := if p ∈ f then f else f.take (f.filter fun o => before o p).length ++ [p] ++ f.drop (f.filter fun o => before o p).length
def srt (l : List Pt) : List Pt := l.foldl ins []
def asp__law_p_sorted : ASp := fun avs n Q => ∃ l : List Pt, avs = [.st (.lst (l.map ptD))] ∧ (∀ p ∈ l, PB 2000 p ∧ p.2.length ≤ 2) ∧ l.length ≤ 1000 ∧ Q (.st (.lst ((srt l).map ptD))) n
def side (p r t : Pt) : Int := p.1 * (x0 r * x1 t - x1 r * x0 t) - x0 p * (r.1 * x1 t - x1 r * t.1) + x1 p * (r.1 * x0 t - x0 r * t.1)
def asp__law_p_side : ASp := fun avs n Q => ∃ p r t : Pt, avs = [.st (ptD p), .st (ptD r), .st (ptD t)] ∧ PB 2000 p ∧ PB 2000 r ∧ PB 2000 t ∧ p.2.length = 2 ∧ r.2.length = 2 ∧ t.2.length = 2 ∧ Q (.st (.int (side p r t))) n
/-- a chain by its last point first; popped while the way over the last point does not turn -/
def popS (up : Bool) : List Pt → Pt → List Pt
  | b :: a :: r, p => if (if up then decide (side a b p ≤ 0) else decide (0 ≤ side a b p)) = true then popS up (a :: r) p else b :: a :: r
  | s, _ => s
def chain (up : Bool) (l : List Pt) : List Pt := l.foldl (fun s p => p :: popS up s p) []
def around (l : List Pt) : List Pt := if l.length < 3 then l else (chain true l).reverse ++ (((chain false l).reverse.drop 1).dropLast).reverse
def asp__law_p_around : ASp := fun avs n Q => ∃ l : List Pt, avs = [.st (.lst (l.map ptD))] ∧ (∀ p ∈ l, PB 2000 p ∧ p.2.length = 2) ∧ l.length ≤ 1000 ∧ Q (.st (.tup ((around l).map ptD))) n
/-- a mixture: some point of as many numbers -/
def asp__law_p_mixture : ASp := fun avs n Q => ∃ (l : List Pt) (m : Nat), avs = [.pn, .st (.tup (l.map ptD))] ∧ l ≠ [] ∧ l.length ≤ 18 ∧ (∀ p ∈ l, PB 60 p ∧ 0 < p.1 ∧ p.2.length = m) ∧ m ≤ 2 ∧ n + 20 < 1000000 ∧
  ∀ (p : Pt) (n2 : Nat), n2 ≤ n + 20 → PB 1400 p → p.2.length = m → Q (.st (ptD p)) n2
def asp__law_b_lowest : ASp := fun avs n Q => ∃ p : Pt, avs = [.st (.int p.1), .st (tupI p.2)] ∧ PB 1400 p ∧ p.2.length ≤ 2 ∧ 0 < gcdN (p.1 :: p.2) ∧ Q (.st (ptD (low p))) n
def thr (p r : Pt) : Pt := (0 - ((x1 r * p.1 - x1 p * r.1) * x0 p - (x0 r * p.1 - x0 p * r.1) * x1 p), [(x1 r * p.1 - x1 p * r.1) * p.1, 0 - (x0 r * p.1 - x0 p * r.1) * p.1])
def asp__law_b_through : ASp := fun avs n Q => ∃ p r : Pt, avs = [.st (ptD p), .st (ptD r)] ∧ PB 60 p ∧ PB 60 r ∧ p.2.length = 2 ∧ r.2.length = 2 ∧ 0 < gcdN ((thr p r).1 :: (thr p r).2) ∧ Q (.st (ptD (low (thr p r)))) n
def asp__law_b_lines : ASp := fun avs n Q => ∃ l : List Pt, avs = [.st (.tup (l.map ptD))] ∧ GoodC l ∧ Q (.fr ((brd l).map ptD)) n
def asp_law : ASp := fun avs n Q => avs = [] ∧ Q (.st (.bl true)) n
end K58
set_option Elab.async false
set_option linter.all false
set_option maxRecDepth 100000
set_option maxHeartbeats 8000000
/-! K58: printed by gen.py: readings and derivations. -/
namespace K58
open PySem PySem.Spec PyProof.Rows L2 Ab
/-! ### value -/
abbrev s_value : Stmt := topS 2
abbrev N_value : List Str := ["plane", "point", "count", "number"]
theorem sc_value : FnScope N_value ["plane", "point"] (defScope s_value) := ⟨rfl, rfl, rfl, by decide +kernel, rfl, by decide +kernel, by decide +kernel⟩
def as_value : AS := (aRet (aOp arAdd (aOp arMul (aOp arIx (aVar 0) (aC (.int 0))) (aOp arIx (aVar 1) (aC (.int 0)))) (aCB arSum (aCons (aLc (aZip (aCons (aOp arIx (aVar 0) (aC (.int 1))) (aCons (aOp arIx (aVar 1) (aC (.int 1))) aNil))) (aGt 2 (aGcons (aGn 2) (aGcons (aGn 3) aGnil))) aYes (aOp arMul (aVar 2) (aVar 3)) [2, 3]) aNil))))
theorem bd_value {P : Program} {w : World} {K : PySem.W.Frag} {mg : Str → Option Value} {base : Heap} (fx : Fx mg)  {f : Addr} (cdv : Value) (A : Around) (outer : List PySem.Env) (s : Shared) (H : Hp) (E : XK)
    (hr : Room 0 (A.deeper (envOfC "value" (defScope s_value) s.heap.objs.size f cdv))) : ASsx (cxOf CX0 P w K mg base N_value "value" (defScope s_value) f cdv A outer s H E).nox (defBody s_value) as_value :=
  (as_one (as_ret (ae_op op_addA sr_add (ae_op op_mulW sr_mulW (ae_ix (ae_var 0) ae_int) (ae_ix (ae_var 1) ae_int)) (ae_callB (cr_sum rfl) sn_sum (by rfl) fx.b_sum (by decide +kernel) (aa_cons (ae_lc [("count", 2), ("number", 3)] (by rfl) rfl sc_value.nd (ai_zip (by rfl) fx.b_zip (aa_cons (ae_ix (ae_var 0) ae_int) (aa_cons (ae_ix (ae_var 1) ae_int) aa_nil))) (blkOk_by (own := [("count", 2), ("number", 3)]) (N := N_value) (sc := defScope s_value) (by decide +kernel)) (fun _ _ _ _ _ => (ag_tup (m := 2) rfl (ags_cons (ag_name (i := 2) (vs := [2, 3]) (by decide) sc_value.nd rfl (by first | exact Or.inl rfl | exact Or.inr rfl)) (ags_cons (ag_name (i := 3) (vs := [2, 3]) (by decide) sc_value.nd rfl (by first | exact Or.inl rfl | exact Or.inr rfl)) ags_nil)))) (fun _ _ _ _ _ => ats_nil) (fun _ _ _ _ _ => (ae_op op_mulW sr_mulW (ae_var 2) (ae_var 3)))) aa_nil)))))
/-! ### common -/
abbrev s_common : Stmt := topS 4
abbrev N_common : List Str := ["numbers", "found", "number"]
theorem sc_common : FnScope N_common ["numbers"] (defScope s_common) := ⟨rfl, rfl, rfl, by decide +kernel, rfl, by decide +kernel, by decide +kernel⟩
def as_common : AS := (aSeq (aSet 1 (aC (.int 0)))
  (aSeq (aFor (aIt (aVar 0)) (aGn 2) (aSet 1 (aCB arGcd (aCons (aVar 1) (aCons (aVar 2) aNil)))))
  (aRet (aVar 1))))
theorem bd_common {P : Program} {w : World} {K : PySem.W.Frag} {mg : Str → Option Value} {base : Heap} (fx : Fx mg)  {f : Addr} (cdv : Value) (A : Around) (outer : List PySem.Env) (s : Shared) (H : Hp) (E : XK)
    (hr : Room 0 (A.deeper (envOfC "common" (defScope s_common) s.heap.objs.size f cdv))) : ASsx (cxOf CX0 P w K mg base N_common "common" (defScope s_common) f cdv A outer s H E).nox (defBody s_common) as_common :=
  (as_cons (as_set (i := 1) sc_common.nd rfl (by first | exact Or.inl rfl | exact Or.inr rfl) ae_int)
    (as_cons (as_for PassesOwn.never rfl (ai_seq (ae_var 0)) (ag_name (i := 2) (vs := [2]) (by decide) sc_common.nd rfl (by first | exact Or.inl rfl | exact Or.inr rfl)) (as_one (as_set (i := 1) sc_common.nd rfl (by first | exact Or.inl rfl | exact Or.inr rfl) (ae_callBfun cr_gcd sn_gcd (by rfl) fx.b_gcd (aa_cons (ae_var 1) (aa_cons (ae_var 2) aa_nil))))))
    (as_one (as_ret (ae_var 1)))))
/-! ### in_lowest -/
abbrev s_in_lowest : Stmt := topS 5
abbrev N_in_lowest : List Str := ["base", "counts", "part", "count"]
theorem sc_in_lowest : FnScope N_in_lowest ["base", "counts"] (defScope s_in_lowest) := ⟨rfl, rfl, rfl, by decide +kernel, rfl, by decide +kernel, by decide +kernel⟩
def as_in_lowest : AS := (aSeq (aSet 2 (aCall asp_common (aCons (aLst (aCons (aVar 0) (aStar (aVar 1) aNil))) aNil)))
  (aRet (aTup (aCons (aOp arDiv (aVar 0) (aVar 2)) (aCons (aCB arTuple (aCons (aLc (aIt (aVar 1)) (aGn 3) aYes (aOp arDiv (aVar 3) (aVar 2)) [3]) aNil)) aNil)))))
theorem bd_in_lowest {P : Program} {w : World} {K : PySem.W.Frag} {mg : Str → Option Value} {base : Heap} (fx : Fx mg) (c_common : Cal P w K mg base 1 "common" ["numbers"] asp_common) {f : Addr} (cdv : Value) (A : Around) (outer : List PySem.Env) (s : Shared) (H : Hp) (E : XK)
    (hr : Room 1 (A.deeper (envOfC "in_lowest" (defScope s_in_lowest) s.heap.objs.size f cdv))) : ASsx (cxOf CX0 P w K mg base N_in_lowest "in_lowest" (defScope s_in_lowest) f cdv A outer s H E).nox (defBody s_in_lowest) as_in_lowest :=
  (as_cons (as_set (i := 2) sc_in_lowest.nd rfl (by first | exact Or.inl rfl | exact Or.inr rfl) (ae_f c_common hr (by decide) (by rfl) (aa_cons (ae_lst (aa_cons (ae_var 0) (aa_star (ae_var 1) aa_nil))) aa_nil)))
    (as_one (as_ret (ae_tup (aa_cons (ae_op op_fdivW sr_divW (ae_var 0) (ae_var 2)) (aa_cons (ae_callTy call_tuple_of sn_tuple (by rfl) fx.b_tuple (by decide +kernel) (aa_cons (ae_lc [("count", 3)] (by rfl) rfl sc_in_lowest.nd (ai_seq (ae_var 1)) (blkOk_by (own := [("count", 3)]) (N := N_in_lowest) (sc := defScope s_in_lowest) (by decide +kernel)) (fun _ _ _ _ _ => (ag_name (i := 3) (vs := [3]) (by decide) sc_in_lowest.nd rfl (by first | exact Or.inl rfl | exact Or.inr rfl))) (fun _ _ _ _ _ => ats_nil) (fun _ _ _ _ _ => (ae_op op_fdivW sr_divW (ae_var 3) (ae_var 2)))) aa_nil)) aa_nil))))))
/-! ### ends_of -/
abbrev s_ends_of : Stmt := topS 6
abbrev N_ends_of : List Str := ["corners", "low", "high", "least", "greatest"]
theorem sc_ends_of : FnScope N_ends_of ["corners"] (defScope s_ends_of) := ⟨rfl, rfl, rfl, by decide +kernel, rfl, by decide +kernel, by decide +kernel⟩
def as_ends_of : AS := (aSeq (aAsg (aTup (aCons (aOp arIx (aVar 0) (aC (.int 0))) (aCons (aOp arIx (aVar 0) (aUn arNeg (aC (.int 1)))) aNil))) (aGt 2 (aGcons (aGt 2 (aGcons (aGn 1) (aGcons (aGt 1 (aGcons (aGn 3) aGnil)) aGnil))) (aGcons (aGt 2 (aGcons (aGn 2) (aGcons (aGt 1 (aGcons (aGn 4) aGnil)) aGnil))) aGnil))))
  (aRet (aLst (aCons (aTup (aCons (aVar 3) (aCons (aTup (aCons (aOp arSub (aC (.int 0)) (aVar 1)) aNil)) aNil))) (aCons (aTup (aCons (aOp arSub (aC (.int 0)) (aVar 4)) (aCons (aTup (aCons (aVar 2) aNil)) aNil))) aNil)))))
theorem bd_ends_of {P : Program} {w : World} {K : PySem.W.Frag} {mg : Str → Option Value} {base : Heap}  {f : Addr} (cdv : Value) (A : Around) (outer : List PySem.Env) (s : Shared) (H : Hp) (E : XK)
    (hr : Room 0 (A.deeper (envOfC "ends_of" (defScope s_ends_of) s.heap.objs.size f cdv))) : ASsx (cxOf CX0 P w K mg base N_ends_of "ends_of" (defScope s_ends_of) f cdv A outer s H E).nox (defBody s_ends_of) as_ends_of :=
  (as_cons (as_asg (ae_tup (aa_cons (ae_ix (ae_var 0) ae_int) (aa_cons (ae_ix (ae_var 0) (ae_neg ae_int)) aa_nil))) (ag_tup (m := 2) rfl (ags_cons (ag_tup (m := 2) rfl (ags_cons (ag_name (i := 1) (vs := [1, 2, 3, 4]) (by decide) sc_ends_of.nd rfl (by first | exact Or.inl rfl | exact Or.inr rfl)) (ags_cons (ag_tup (m := 1) rfl (ags_cons (ag_name (i := 3) (vs := [1, 2, 3, 4]) (by decide) sc_ends_of.nd rfl (by first | exact Or.inl rfl | exact Or.inr rfl)) ags_nil)) ags_nil))) (ags_cons (ag_tup (m := 2) rfl (ags_cons (ag_name (i := 2) (vs := [1, 2, 3, 4]) (by decide) sc_ends_of.nd rfl (by first | exact Or.inl rfl | exact Or.inr rfl)) (ags_cons (ag_tup (m := 1) rfl (ags_cons (ag_name (i := 4) (vs := [1, 2, 3, 4]) (by decide) sc_ends_of.nd rfl (by first | exact Or.inl rfl | exact Or.inr rfl)) ags_nil)) ags_nil))) ags_nil))))
    (as_one (as_ret (ae_lst (aa_cons (ae_tup (aa_cons (ae_var 3) (aa_cons (ae_tup (aa_cons (ae_op op_sub sr_sub ae_int (ae_var 1)) aa_nil)) aa_nil))) (aa_cons (ae_tup (aa_cons (ae_op op_sub sr_sub ae_int (ae_var 4)) (aa_cons (ae_tup (aa_cons (ae_var 2) aa_nil)) aa_nil))) aa_nil))))))
/-! ### line_through -/
abbrev s_line_through : Stmt := topS 7
abbrev N_line_through : List Str := ["one", "other", "q", "x", "y", "its", "far", "high"]
theorem sc_line_through : FnScope N_line_through ["one", "other"] (defScope s_line_through) := ⟨rfl, rfl, rfl, by decide +kernel, rfl, by decide +kernel, by decide +kernel⟩
def as_line_through : AS := (aSeq (aAsg (aVar 0) (aGt 2 (aGcons (aGn 2) (aGcons (aGt 2 (aGcons (aGn 3) (aGcons (aGn 4) aGnil))) aGnil))))
  (aSeq (aAsg (aVar 1) (aGt 2 (aGcons (aGn 5) (aGcons (aGt 2 (aGcons (aGn 6) (aGcons (aGn 7) aGnil))) aGnil))))
  (aRet (aTup (aCons (aOp arSub (aC (.int 0)) (aOp arSub (aOp arMul (aVar 3) (aVar 7)) (aOp arMul (aVar 4) (aVar 6)))) (aCons (aTup (aCons (aOp arSub (aOp arMul (aVar 2) (aVar 7)) (aOp arMul (aVar 4) (aVar 5))) (aCons (aOp arSub (aC (.int 0)) (aOp arSub (aOp arMul (aVar 2) (aVar 6)) (aOp arMul (aVar 3) (aVar 5)))) aNil))) aNil))))))
theorem bd_line_through {P : Program} {w : World} {K : PySem.W.Frag} {mg : Str → Option Value} {base : Heap}  {f : Addr} (cdv : Value) (A : Around) (outer : List PySem.Env) (s : Shared) (H : Hp) (E : XK)
    (hr : Room 0 (A.deeper (envOfC "line_through" (defScope s_line_through) s.heap.objs.size f cdv))) : ASsx (cxOf CX0 P w K mg base N_line_through "line_through" (defScope s_line_through) f cdv A outer s H E).nox (defBody s_line_through) as_line_through :=
  (as_cons (as_asg (ae_var 0) (ag_tup (m := 2) rfl (ags_cons (ag_name (i := 2) (vs := [2, 3, 4]) (by decide) sc_line_through.nd rfl (by first | exact Or.inl rfl | exact Or.inr rfl)) (ags_cons (ag_tup (m := 2) rfl (ags_cons (ag_name (i := 3) (vs := [2, 3, 4]) (by decide) sc_line_through.nd rfl (by first | exact Or.inl rfl | exact Or.inr rfl)) (ags_cons (ag_name (i := 4) (vs := [2, 3, 4]) (by decide) sc_line_through.nd rfl (by first | exact Or.inl rfl | exact Or.inr rfl)) ags_nil))) ags_nil))))
    (as_cons (as_asg (ae_var 1) (ag_tup (m := 2) rfl (ags_cons (ag_name (i := 5) (vs := [5, 6, 7]) (by decide) sc_line_through.nd rfl (by first | exact Or.inl rfl | exact Or.inr rfl)) (ags_cons (ag_tup (m := 2) rfl (ags_cons (ag_name (i := 6) (vs := [5, 6, 7]) (by decide) sc_line_through.nd rfl (by first | exact Or.inl rfl | exact Or.inr rfl)) (ags_cons (ag_name (i := 7) (vs := [5, 6, 7]) (by decide) sc_line_through.nd rfl (by first | exact Or.inl rfl | exact Or.inr rfl)) ags_nil))) ags_nil))))
    (as_one (as_ret (ae_tup (aa_cons (ae_op op_sub sr_sub ae_int (ae_op op_sub sr_sub (ae_op op_mulW sr_mulW (ae_var 3) (ae_var 7)) (ae_op op_mulW sr_mulW (ae_var 4) (ae_var 6)))) (aa_cons (ae_tup (aa_cons (ae_op op_sub sr_sub (ae_op op_mulW sr_mulW (ae_var 2) (ae_var 7)) (ae_op op_mulW sr_mulW (ae_var 4) (ae_var 5))) (aa_cons (ae_op op_sub sr_sub ae_int (ae_op op_sub sr_sub (ae_op op_mulW sr_mulW (ae_var 2) (ae_var 6)) (ae_op op_mulW sr_mulW (ae_var 3) (ae_var 5)))) aa_nil))) aa_nil)))))))
/-! ### stretch_ends -/
abbrev s_stretch_ends : Stmt := topS 8
abbrev N_stretch_ends : List Str := ["one", "other", "q", "x", "y", "its", "far", "high", "across", "up", "first"]
theorem sc_stretch_ends : FnScope N_stretch_ends ["one", "other"] (defScope s_stretch_ends) := ⟨rfl, rfl, rfl, by decide +kernel, rfl, by decide +kernel, by decide +kernel⟩
def as_stretch_ends : AS := (aSeq (aAsg (aVar 0) (aGt 2 (aGcons (aGn 2) (aGcons (aGt 2 (aGcons (aGn 3) (aGcons (aGn 4) aGnil))) aGnil))))
  (aSeq (aAsg (aVar 1) (aGt 2 (aGcons (aGn 5) (aGcons (aGt 2 (aGcons (aGn 6) (aGcons (aGn 7) aGnil))) aGnil))))
  (aSeq (aPar 8 9 (aCons (aOp arSub (aOp arMul (aVar 6) (aVar 2)) (aOp arMul (aVar 3) (aVar 5))) (aCons (aOp arSub (aOp arMul (aVar 7) (aVar 2)) (aOp arMul (aVar 4) (aVar 5))) aNil)))
  (aSeq (aSet 10 (aTup (aCons (aOp arAdd (aOp arMul (aVar 8) (aVar 3)) (aOp arMul (aVar 9) (aVar 4))) (aCons (aTup (aCons (aOp arSub (aC (.int 0)) (aOp arMul (aVar 8) (aVar 2))) (aCons (aOp arSub (aC (.int 0)) (aOp arMul (aVar 9) (aVar 2))) aNil))) aNil))))
  (aRet (aLst (aCons (aVar 10) (aCons (aTup (aCons (aOp arSub (aC (.int 0)) (aOp arAdd (aOp arMul (aVar 8) (aVar 6)) (aOp arMul (aVar 9) (aVar 7)))) (aCons (aTup (aCons (aOp arMul (aVar 8) (aVar 5)) (aCons (aOp arMul (aVar 9) (aVar 5)) aNil))) aNil))) aNil))))))))
theorem bd_stretch_ends {P : Program} {w : World} {K : PySem.W.Frag} {mg : Str → Option Value} {base : Heap}  {f : Addr} (cdv : Value) (A : Around) (outer : List PySem.Env) (s : Shared) (H : Hp) (E : XK)
    (hr : Room 0 (A.deeper (envOfC "stretch_ends" (defScope s_stretch_ends) s.heap.objs.size f cdv))) : ASsx (cxOf CX0 P w K mg base N_stretch_ends "stretch_ends" (defScope s_stretch_ends) f cdv A outer s H E).nox (defBody s_stretch_ends) as_stretch_ends :=
  (as_cons (as_asg (ae_var 0) (ag_tup (m := 2) rfl (ags_cons (ag_name (i := 2) (vs := [2, 3, 4]) (by decide) sc_stretch_ends.nd rfl (by first | exact Or.inl rfl | exact Or.inr rfl)) (ags_cons (ag_tup (m := 2) rfl (ags_cons (ag_name (i := 3) (vs := [2, 3, 4]) (by decide) sc_stretch_ends.nd rfl (by first | exact Or.inl rfl | exact Or.inr rfl)) (ags_cons (ag_name (i := 4) (vs := [2, 3, 4]) (by decide) sc_stretch_ends.nd rfl (by first | exact Or.inl rfl | exact Or.inr rfl)) ags_nil))) ags_nil))))
    (as_cons (as_asg (ae_var 1) (ag_tup (m := 2) rfl (ags_cons (ag_name (i := 5) (vs := [5, 6, 7]) (by decide) sc_stretch_ends.nd rfl (by first | exact Or.inl rfl | exact Or.inr rfl)) (ags_cons (ag_tup (m := 2) rfl (ags_cons (ag_name (i := 6) (vs := [5, 6, 7]) (by decide) sc_stretch_ends.nd rfl (by first | exact Or.inl rfl | exact Or.inr rfl)) (ags_cons (ag_name (i := 7) (vs := [5, 6, 7]) (by decide) sc_stretch_ends.nd rfl (by first | exact Or.inl rfl | exact Or.inr rfl)) ags_nil))) ags_nil))))
    (as_cons (as_par (i := 8) (j := 9) rfl sc_stretch_ends.nd rfl rfl (by decide) rfl rfl (aa_cons (ae_op op_sub sr_sub (ae_op op_mulW sr_mulW (ae_var 6) (ae_var 2)) (ae_op op_mulW sr_mulW (ae_var 3) (ae_var 5))) (aa_cons (ae_op op_sub sr_sub (ae_op op_mulW sr_mulW (ae_var 7) (ae_var 2)) (ae_op op_mulW sr_mulW (ae_var 4) (ae_var 5))) aa_nil)) (by rfl))
    (as_cons (as_set (i := 10) sc_stretch_ends.nd rfl (by first | exact Or.inl rfl | exact Or.inr rfl) (ae_tup (aa_cons (ae_op op_addA sr_add (ae_op op_mulW sr_mulW (ae_var 8) (ae_var 3)) (ae_op op_mulW sr_mulW (ae_var 9) (ae_var 4))) (aa_cons (ae_tup (aa_cons (ae_op op_sub sr_sub ae_int (ae_op op_mulW sr_mulW (ae_var 8) (ae_var 2))) (aa_cons (ae_op op_sub sr_sub ae_int (ae_op op_mulW sr_mulW (ae_var 9) (ae_var 2))) aa_nil))) aa_nil))))
    (as_one (as_ret (ae_lst (aa_cons (ae_var 10) (aa_cons (ae_tup (aa_cons (ae_op op_sub sr_sub ae_int (ae_op op_addA sr_add (ae_op op_mulW sr_mulW (ae_var 8) (ae_var 6)) (ae_op op_mulW sr_mulW (ae_var 9) (ae_var 7)))) (aa_cons (ae_tup (aa_cons (ae_op op_mulW sr_mulW (ae_var 8) (ae_var 5)) (aa_cons (ae_op op_mulW sr_mulW (ae_var 9) (ae_var 5)) aa_nil))) aa_nil))) aa_nil)))))))))
/-! ### point_borders -/
abbrev s_point_borders : Stmt := topS 9
abbrev N_point_borders : List Str := ["point", "q", "x", "y"]
theorem sc_point_borders : FnScope N_point_borders ["point"] (defScope s_point_borders) := ⟨rfl, rfl, rfl, by decide +kernel, rfl, by decide +kernel, by decide +kernel⟩
def as_point_borders : AS := (aSeq (aAsg (aVar 0) (aGt 2 (aGcons (aGn 1) (aGcons (aGt 2 (aGcons (aGn 2) (aGcons (aGn 3) aGnil))) aGnil))))
  (aRet (aLst (aCons (aTup (aCons (aVar 2) (aCons (aTup (aCons (aOp arSub (aC (.int 0)) (aVar 1)) (aCons (aC (.int 0)) aNil))) aNil))) (aCons (aTup (aCons (aOp arSub (aC (.int 0)) (aVar 2)) (aCons (aTup (aCons (aVar 1) (aCons (aC (.int 0)) aNil))) aNil))) (aCons (aTup (aCons (aVar 3) (aCons (aTup (aCons (aC (.int 0)) (aCons (aOp arSub (aC (.int 0)) (aVar 1)) aNil))) aNil))) (aCons (aTup (aCons (aOp arSub (aC (.int 0)) (aVar 3)) (aCons (aTup (aCons (aC (.int 0)) (aCons (aVar 1) aNil))) aNil))) aNil)))))))
theorem bd_point_borders {P : Program} {w : World} {K : PySem.W.Frag} {mg : Str → Option Value} {base : Heap}  {f : Addr} (cdv : Value) (A : Around) (outer : List PySem.Env) (s : Shared) (H : Hp) (E : XK)
    (hr : Room 0 (A.deeper (envOfC "point_borders" (defScope s_point_borders) s.heap.objs.size f cdv))) : ASsx (cxOf CX0 P w K mg base N_point_borders "point_borders" (defScope s_point_borders) f cdv A outer s H E).nox (defBody s_point_borders) as_point_borders :=
  (as_cons (as_asg (ae_var 0) (ag_tup (m := 2) rfl (ags_cons (ag_name (i := 1) (vs := [1, 2, 3]) (by decide) sc_point_borders.nd rfl (by first | exact Or.inl rfl | exact Or.inr rfl)) (ags_cons (ag_tup (m := 2) rfl (ags_cons (ag_name (i := 2) (vs := [1, 2, 3]) (by decide) sc_point_borders.nd rfl (by first | exact Or.inl rfl | exact Or.inr rfl)) (ags_cons (ag_name (i := 3) (vs := [1, 2, 3]) (by decide) sc_point_borders.nd rfl (by first | exact Or.inl rfl | exact Or.inr rfl)) ags_nil))) ags_nil))))
    (as_one (as_ret (ae_lst (aa_cons (ae_tup (aa_cons (ae_var 2) (aa_cons (ae_tup (aa_cons (ae_op op_sub sr_sub ae_int (ae_var 1)) (aa_cons ae_int aa_nil))) aa_nil))) (aa_cons (ae_tup (aa_cons (ae_op op_sub sr_sub ae_int (ae_var 2)) (aa_cons (ae_tup (aa_cons (ae_var 1) (aa_cons ae_int aa_nil))) aa_nil))) (aa_cons (ae_tup (aa_cons (ae_var 3) (aa_cons (ae_tup (aa_cons ae_int (aa_cons (ae_op op_sub sr_sub ae_int (ae_var 1)) aa_nil))) aa_nil))) (aa_cons (ae_tup (aa_cons (ae_op op_sub sr_sub ae_int (ae_var 3)) (aa_cons (ae_tup (aa_cons ae_int (aa_cons (ae_var 1) aa_nil))) aa_nil))) aa_nil))))))))
/-! ### borders -/
abbrev s_borders : Stmt := topS 10
abbrev N_borders : List Str := ["corners", "found", "back", "base", "counts", "one", "other", "count"]
theorem sc_borders : FnScope N_borders ["corners"] (defScope s_borders) := ⟨rfl, rfl, rfl, by decide +kernel, rfl, by decide +kernel, by decide +kernel⟩
def as_borders : AS := (aSeq (aIfS (aTest (aOp (arEqD false) (aCB arLen (aCons (aOp arIx (aOp arIx (aVar 0) (aC (.int 0))) (aC (.int 1))) aNil)) (aC (.int 1)))) (aSet 1 (aCall asp_ends_of (aCons (aVar 0) aNil))) (aIfS (aTest (aOp (arEqD false) (aCB arLen (aCons (aVar 0) aNil)) (aC (.int 1)))) (aSet 1 (aCall asp_point_borders (aCons (aOp arIx (aVar 0) (aC (.int 0))) aNil))) (aIfS (aTest (aOp (arEqD false) (aCB arLen (aCons (aVar 0) aNil)) (aC (.int 2)))) (aSeq (aAsg (aCall asp_line_through (aCons (aOp arIx (aVar 0) (aC (.int 0))) (aCons (aOp arIx (aVar 0) (aC (.int 1))) aNil))) (aGt 2 (aGcons (aGn 3) (aGcons (aGn 4) aGnil))))
  (aSeq (aSet 2 (aTup (aCons (aOp arSub (aC (.int 0)) (aVar 3)) (aCons (aCB arTuple (aCons (aLc (aIt (aVar 4)) (aGn 7) aYes (aOp arSub (aC (.int 0)) (aVar 7)) [7]) aNil)) aNil))))
  (aSet 1 (aLst (aCons (aTup (aCons (aVar 3) (aCons (aVar 4) aNil))) (aCons (aVar 2) (aStar (aCall asp_stretch_ends (aCons (aOp arIx (aVar 0) (aC (.int 0))) (aCons (aOp arIx (aVar 0) (aC (.int 1))) aNil))) aNil))))))) (aSet 1 (aLc (aZip (aCons (aVar 0) (aCons (aLst (aStar (aSl (aVar 0) (aPart (aC (.int 1))) aNoPart) (aCons (aOp arIx (aVar 0) (aC (.int 0))) aNil))) aNil))) (aGt 2 (aGcons (aGn 5) (aGcons (aGn 6) aGnil))) aYes (aCall asp_line_through (aCons (aVar 5) (aCons (aVar 6) aNil))) [5, 6])))))
  (aRet (aLc (aIt (aVar 1)) (aGt 2 (aGcons (aGn 3) (aGcons (aGn 4) aGnil))) aYes (aCall asp_in_lowest (aCons (aVar 3) (aCons (aVar 4) aNil))) [3, 4])))
theorem bd_borders {P : Program} {w : World} {K : PySem.W.Frag} {mg : Str → Option Value} {base : Heap} (fx : Fx mg) (c_ends_of : Cal P w K mg base 1 "ends_of" ["corners"] asp_ends_of) (c_point_borders : Cal P w K mg base 1 "point_borders" ["point"] asp_point_borders) (c_line_through : Cal P w K mg base 1 "line_through" ["one", "other"] asp_line_through) (c_stretch_ends : Cal P w K mg base 1 "stretch_ends" ["one", "other"] asp_stretch_ends) (c_in_lowest : Cal P w K mg base 2 "in_lowest" ["base", "counts"] asp_in_lowest) {f : Addr} (cdv : Value) (A : Around) (outer : List PySem.Env) (s : Shared) (H : Hp) (E : XK)
    (hr : Room 2 (A.deeper (envOfC "borders" (defScope s_borders) s.heap.objs.size f cdv))) : ASsx (cxOf CX0 P w K mg base N_borders "borders" (defScope s_borders) f cdv A outer s H E).nox (defBody s_borders) as_borders :=
  (as_cons (as_if (at_cmp (op_eqD hr.units) sr_EqD (ae_callB call_len sn_len (by rfl) fx.b_len (by decide +kernel) (aa_cons (ae_ix (ae_ix (ae_var 0) ae_int) ae_int) aa_nil)) ae_int (nomark _)) (as_one (as_set (i := 1) sc_borders.nd rfl (by first | exact Or.inl rfl | exact Or.inr rfl) (ae_f c_ends_of hr (by decide) (by rfl) (aa_cons (ae_var 0) aa_nil)))) (as_one (as_if (at_cmp (op_eqD hr.units) sr_EqD (ae_callB call_len sn_len (by rfl) fx.b_len (by decide +kernel) (aa_cons (ae_var 0) aa_nil)) ae_int (nomark _)) (as_one (as_set (i := 1) sc_borders.nd rfl (by first | exact Or.inl rfl | exact Or.inr rfl) (ae_f c_point_borders hr (by decide) (by rfl) (aa_cons (ae_ix (ae_var 0) ae_int) aa_nil)))) (as_one (as_if (at_cmp (op_eqD hr.units) sr_EqD (ae_callB call_len sn_len (by rfl) fx.b_len (by decide +kernel) (aa_cons (ae_var 0) aa_nil)) ae_int (nomark _)) (as_cons (as_asg (ae_f c_line_through hr (by decide) (by rfl) (aa_cons (ae_ix (ae_var 0) ae_int) (aa_cons (ae_ix (ae_var 0) ae_int) aa_nil))) (ag_tup (m := 2) rfl (ags_cons (ag_name (i := 3) (vs := [3, 4]) (by decide) sc_borders.nd rfl (by first | exact Or.inl rfl | exact Or.inr rfl)) (ags_cons (ag_name (i := 4) (vs := [3, 4]) (by decide) sc_borders.nd rfl (by first | exact Or.inl rfl | exact Or.inr rfl)) ags_nil))))
    (as_cons (as_set (i := 2) sc_borders.nd rfl (by first | exact Or.inl rfl | exact Or.inr rfl) (ae_tup (aa_cons (ae_op op_sub sr_sub ae_int (ae_var 3)) (aa_cons (ae_callTy call_tuple_of sn_tuple (by rfl) fx.b_tuple (by decide +kernel) (aa_cons (ae_lc [("count", 7)] (by rfl) rfl sc_borders.nd (ai_seq (ae_var 4)) (blkOk_by (own := [("count", 7)]) (N := N_borders) (sc := defScope s_borders) (by decide +kernel)) (fun _ _ _ _ _ => (ag_name (i := 7) (vs := [7]) (by decide) sc_borders.nd rfl (by first | exact Or.inl rfl | exact Or.inr rfl))) (fun _ _ _ _ _ => ats_nil) (fun _ _ _ _ _ => (ae_op op_sub sr_sub ae_int (ae_var 7)))) aa_nil)) aa_nil))))
    (as_one (as_set (i := 1) sc_borders.nd rfl (by first | exact Or.inl rfl | exact Or.inr rfl) (ae_lst (aa_cons (ae_tup (aa_cons (ae_var 3) (aa_cons (ae_var 4) aa_nil))) (aa_cons (ae_var 2) (aa_star (ae_f c_stretch_ends hr (by decide) (by rfl) (aa_cons (ae_ix (ae_var 0) ae_int) (aa_cons (ae_ix (ae_var 0) ae_int) aa_nil))) aa_nil)))))))) (as_one (as_setLc [("one", 5), ("other", 6)] (by rfl) (i := 1) rfl sc_borders.nd rfl rfl (sw_true rfl rfl rfl (by decide +kernel)) (ai_zip (by rfl) fx.b_zip (aa_cons (ae_var 0) (aa_cons (ae_lst (aa_star (ae_slice (ae_var 0) (ao_some ae_int) ao_none) (aa_cons (ae_ix (ae_var 0) ae_int) aa_nil))) aa_nil))) (blkOk_by (own := [("one", 5), ("other", 6)]) (N := N_borders) (sc := defScope s_borders) (by decide +kernel)) (fun _ _ _ _ _ => (ag_tup (m := 2) rfl (ags_cons (ag_name (i := 5) (vs := [5, 6]) (by decide) sc_borders.nd rfl (by first | exact Or.inl rfl | exact Or.inr rfl)) (ags_cons (ag_name (i := 6) (vs := [5, 6]) (by decide) sc_borders.nd rfl (by first | exact Or.inl rfl | exact Or.inr rfl)) ags_nil)))) (fun _ _ _ _ _ => ats_nil) (fun _ _ _ _ _ => (ae_f c_line_through hr (by decide) (by rfl) (aa_cons (ae_var 5) (aa_cons (ae_var 6) aa_nil)))))))))))
    (as_one (as_ret (ae_lc [("base", 3), ("counts", 4)] (by rfl) rfl sc_borders.nd (ai_seq (ae_var 1)) (blkOk_by (own := [("base", 3), ("counts", 4)]) (N := N_borders) (sc := defScope s_borders) (by decide +kernel)) (fun _ _ _ _ _ => (ag_tup (m := 2) rfl (ags_cons (ag_name (i := 3) (vs := [3, 4]) (by decide) sc_borders.nd rfl (by first | exact Or.inl rfl | exact Or.inr rfl)) (ags_cons (ag_name (i := 4) (vs := [3, 4]) (by decide) sc_borders.nd rfl (by first | exact Or.inl rfl | exact Or.inr rfl)) ags_nil)))) (fun _ _ _ _ _ => ats_nil) (fun _ _ _ _ _ => (ae_f c_in_lowest hr (by decide) (by rfl) (aa_cons (ae_var 3) (aa_cons (ae_var 4) aa_nil))))))))
/-! ### is_in -/
abbrev s_is_in : Stmt := topS 11
abbrev N_is_in : List Str := ["corners", "point", "border"]
theorem sc_is_in : FnScope N_is_in ["corners", "point"] (defScope s_is_in) := ⟨rfl, rfl, rfl, by decide +kernel, rfl, by decide +kernel, by decide +kernel⟩
def as_is_in : AS := (aRet (aCB arAll (aCons (aLc (aIt (aCall asp_borders (aCons (aVar 0) aNil))) (aGn 2) aYes (aOp arLe (aCall asp_value (aCons (aVar 2) (aCons (aVar 1) aNil))) (aC (.int 0))) [2]) aNil)))
theorem bd_is_in {P : Program} {w : World} {K : PySem.W.Frag} {mg : Str → Option Value} {base : Heap} (fx : Fx mg) (c_borders : Cal P w K mg base 3 "borders" ["corners"] asp_borders) (c_value : Cal P w K mg base 1 "value" ["plane", "point"] asp_value) {f : Addr} (cdv : Value) (A : Around) (outer : List PySem.Env) (s : Shared) (H : Hp) (E : XK)
    (hr : Room 3 (A.deeper (envOfC "is_in" (defScope s_is_in) s.heap.objs.size f cdv))) : ASsx (cxOf CX0 P w K mg base N_is_in "is_in" (defScope s_is_in) f cdv A outer s H E).nox (defBody s_is_in) as_is_in :=
  (as_one (as_ret (ae_callB (cr_all rfl) sn_all (by rfl) fx.b_all (by decide +kernel) (aa_cons (ae_lc [("border", 2)] (by rfl) rfl sc_is_in.nd (ai_seq (ae_f c_borders hr (by decide) (by rfl) (aa_cons (ae_var 0) aa_nil))) (blkOk_by (own := [("border", 2)]) (N := N_is_in) (sc := defScope s_is_in) (by decide +kernel)) (fun _ _ _ _ _ => (ag_name (i := 2) (vs := [2]) (by decide) sc_is_in.nd rfl (by first | exact Or.inl rfl | exact Or.inr rfl))) (fun _ _ _ _ _ => ats_nil) (fun _ _ _ _ _ => (ae_cmp op_le sr_le (ae_f c_value hr (by decide) (by rfl) (aa_cons (ae_var 2) (aa_cons (ae_var 1) aa_nil))) ae_int (nomark _)))) aa_nil))))
/-! ### is_inner -/
abbrev s_is_inner : Stmt := topS 12
abbrev N_is_inner : List Str := ["corners", "point", "border"]
theorem sc_is_inner : FnScope N_is_inner ["corners", "point"] (defScope s_is_inner) := ⟨rfl, rfl, rfl, by decide +kernel, rfl, by decide +kernel, by decide +kernel⟩
def as_is_inner : AS := (aRet (aCB arAll (aCons (aLc (aIt (aCall asp_borders (aCons (aVar 0) aNil))) (aGn 2) aYes (aOp arLt (aCall asp_value (aCons (aVar 2) (aCons (aVar 1) aNil))) (aC (.int 0))) [2]) aNil)))
theorem bd_is_inner {P : Program} {w : World} {K : PySem.W.Frag} {mg : Str → Option Value} {base : Heap} (fx : Fx mg) (c_borders : Cal P w K mg base 3 "borders" ["corners"] asp_borders) (c_value : Cal P w K mg base 1 "value" ["plane", "point"] asp_value) {f : Addr} (cdv : Value) (A : Around) (outer : List PySem.Env) (s : Shared) (H : Hp) (E : XK)
    (hr : Room 3 (A.deeper (envOfC "is_inner" (defScope s_is_inner) s.heap.objs.size f cdv))) : ASsx (cxOf CX0 P w K mg base N_is_inner "is_inner" (defScope s_is_inner) f cdv A outer s H E).nox (defBody s_is_inner) as_is_inner :=
  (as_one (as_ret (ae_callB (cr_all rfl) sn_all (by rfl) fx.b_all (by decide +kernel) (aa_cons (ae_lc [("border", 2)] (by rfl) rfl sc_is_inner.nd (ai_seq (ae_f c_borders hr (by decide) (by rfl) (aa_cons (ae_var 0) aa_nil))) (blkOk_by (own := [("border", 2)]) (N := N_is_inner) (sc := defScope s_is_inner) (by decide +kernel)) (fun _ _ _ _ _ => (ag_name (i := 2) (vs := [2]) (by decide) sc_is_inner.nd rfl (by first | exact Or.inl rfl | exact Or.inr rfl))) (fun _ _ _ _ _ => ats_nil) (fun _ _ _ _ _ => (ae_cmp op_lt sr_lt (ae_f c_value hr (by decide) (by rfl) (aa_cons (ae_var 2) (aa_cons (ae_var 1) aa_nil))) ae_int (nomark _)))) aa_nil))))
/-! ### _law_pick -/
abbrev s__law_pick : Stmt := topS 16
abbrev N__law_pick : List Str := ["pen", "some"]
theorem sc__law_pick : FnScope N__law_pick ["pen", "some"] (defScope s__law_pick) := ⟨rfl, rfl, rfl, by decide +kernel, rfl, by decide +kernel, by decide +kernel⟩
def as__law_pick : AS := (aRet (aOp arIx (aVar 1) (aCall asp__law_draw (aCons (aVar 0) (aCons (aCB arLen (aCons (aVar 1) aNil)) aNil)))))
theorem bd__law_pick {P : Program} {w : World} {K : PySem.W.Frag} {mg : Str → Option Value} {base : Heap} (fx : Fx mg) (c__law_draw : Cal P w K mg base 1 "_law_draw" ["pen", "many"] asp__law_draw) {f : Addr} (cdv : Value) (A : Around) (outer : List PySem.Env) (s : Shared) (H : Hp) (E : XK)
    (hr : Room 1 (A.deeper (envOfC "_law_pick" (defScope s__law_pick) s.heap.objs.size f cdv))) : ASsx (cxOf CX0 P w K mg base N__law_pick "_law_pick" (defScope s__law_pick) f cdv A outer s H E).nox (defBody s__law_pick) as__law_pick :=
  (as_one (as_ret (ae_ix (ae_var 1) (ae_f c__law_draw hr (by decide) (by rfl) (aa_cons (ae_var 0) (aa_cons (ae_callB call_len sn_len (by rfl) fx.b_len (by decide +kernel) (aa_cons (ae_var 1) aa_nil)) aa_nil))))))
/-! ### _law_p_gcd -/
abbrev s__law_p_gcd : Stmt := topS 17
abbrev N__law_p_gcd : List Str := ["one", "other", "lap"]
theorem sc__law_p_gcd : FnScope N__law_p_gcd ["one", "other"] (defScope s__law_p_gcd) := ⟨rfl, rfl, rfl, by decide +kernel, rfl, by decide +kernel, by decide +kernel⟩
def as__law_p_gcd : AS := (aSeq (aPar 0 1 (aCons (aCB arAbs (aCons (aVar 0) aNil)) (aCons (aCB arAbs (aCons (aVar 1) aNil)) aNil)))
  (aSeq (aFor (aRng1 (aC (.int 3000))) (aGn 2) (aSeq (aIfS (aTest (aOp (arEqD false) (aVar 1) (aC (.int 0)))) aBreak aNext)
  (aPar 0 1 (aCons (aVar 1) (aCons (aOp arMod (aCB arInt (aCons (aVar 0) aNil)) (aVar 1)) aNil)))))
  (aRet (aVar 0))))
theorem bd__law_p_gcd {P : Program} {w : World} {K : PySem.W.Frag} {mg : Str → Option Value} {base : Heap} (fx : Fx mg)  {f : Addr} (cdv : Value) (A : Around) (outer : List PySem.Env) (s : Shared) (H : Hp) (E : XK)
    (hr : Room 0 (A.deeper (envOfC "_law_p_gcd" (defScope s__law_p_gcd) s.heap.objs.size f cdv))) : ASsx (cxOf CX0 P w K mg base N__law_p_gcd "_law_p_gcd" (defScope s__law_p_gcd) f cdv A outer s H E).nox (defBody s__law_p_gcd) as__law_p_gcd :=
  (as_cons (as_par (i := 0) (j := 1) rfl sc__law_p_gcd.nd rfl rfl (by decide) rfl rfl (aa_cons (ae_callB call_abs sn_abs (by rfl) fx.b_abs (by decide +kernel) (aa_cons (ae_var 0) aa_nil)) (aa_cons (ae_callB call_abs sn_abs (by rfl) fx.b_abs (by decide +kernel) (aa_cons (ae_var 1) aa_nil)) aa_nil)) (by rfl))
    (as_cons (as_for PassesOwn.never rfl (ai_range1 (by rfl) fx.b_range ae_int) (ag_name (i := 2) (vs := [2]) (by decide) sc__law_p_gcd.nd rfl (by first | exact Or.inl rfl | exact Or.inr rfl)) (as_cons (as_if (at_cmp (op_eqD hr.units) sr_EqD (ae_var 1) ae_int (nomark _)) (as_one as_break) as_nil)
    (as_one (as_par (i := 0) (j := 1) rfl sc__law_p_gcd.nd rfl rfl (by decide) rfl rfl (aa_cons (ae_var 1) (aa_cons (ae_op op_mod sr_mod (ae_callTy call_int1 sn_int (by rfl) fx.b_int (by decide +kernel) (aa_cons (ae_var 0) aa_nil)) (ae_var 1)) aa_nil)) (by rfl)))))
    (as_one (as_ret (ae_var 0)))))
/-! ### _law_p_point -/
abbrev s__law_p_point : Stmt := topS 18
abbrev N__law_p_point : List Str := ["q", "numbers", "part", "number"]
theorem sc__law_p_point : FnScope N__law_p_point ["q", "numbers"] (defScope s__law_p_point) := ⟨rfl, rfl, rfl, by decide +kernel, rfl, by decide +kernel, by decide +kernel⟩
def as__law_p_point : AS := (aSeq (aSet 2 (aCB arAbs (aCons (aVar 0) aNil)))
  (aSeq (aFor (aIt (aVar 1)) (aGn 3) (aSet 2 (aCall asp__law_p_gcd (aCons (aVar 2) (aCons (aVar 3) aNil)))))
  (aSeq (aSet 2 (aIf (aTest (aOp arGt (aVar 0) (aC (.int 0)))) (aVar 2) (aOp arSub (aC (.int 0)) (aVar 2))))
  (aRet (aTup (aCons (aOp arDiv (aVar 0) (aVar 2)) (aCons (aCB arTuple (aCons (aLc (aIt (aVar 1)) (aGn 3) aYes (aOp arDiv (aVar 3) (aVar 2)) [3]) aNil)) aNil)))))))
theorem bd__law_p_point {P : Program} {w : World} {K : PySem.W.Frag} {mg : Str → Option Value} {base : Heap} (fx : Fx mg) (c__law_p_gcd : Cal P w K mg base 1 "_law_p_gcd" ["one", "other"] asp__law_p_gcd) {f : Addr} (cdv : Value) (A : Around) (outer : List PySem.Env) (s : Shared) (H : Hp) (E : XK)
    (hr : Room 1 (A.deeper (envOfC "_law_p_point" (defScope s__law_p_point) s.heap.objs.size f cdv))) : ASsx (cxOf CX0 P w K mg base N__law_p_point "_law_p_point" (defScope s__law_p_point) f cdv A outer s H E).nox (defBody s__law_p_point) as__law_p_point :=
  (as_cons (as_set (i := 2) sc__law_p_point.nd rfl (by first | exact Or.inl rfl | exact Or.inr rfl) (ae_callB call_abs sn_abs (by rfl) fx.b_abs (by decide +kernel) (aa_cons (ae_var 0) aa_nil)))
    (as_cons (as_for PassesOwn.never rfl (ai_seq (ae_var 1)) (ag_name (i := 3) (vs := [3]) (by decide) sc__law_p_point.nd rfl (by first | exact Or.inl rfl | exact Or.inr rfl)) (as_one (as_set (i := 2) sc__law_p_point.nd rfl (by first | exact Or.inl rfl | exact Or.inr rfl) (ae_f c__law_p_gcd hr (by decide) (by rfl) (aa_cons (ae_var 2) (aa_cons (ae_var 3) aa_nil))))))
    (as_cons (as_set (i := 2) sc__law_p_point.nd rfl (by first | exact Or.inl rfl | exact Or.inr rfl) (ae_if (at_cmp op_gt sr_gt (ae_var 0) ae_int (nomark _)) (ae_var 2) (ae_op op_sub sr_sub ae_int (ae_var 2))))
    (as_one (as_ret (ae_tup (aa_cons (ae_op op_fdivW sr_divW (ae_var 0) (ae_var 2)) (aa_cons (ae_callTy call_tuple_of sn_tuple (by rfl) fx.b_tuple (by decide +kernel) (aa_cons (ae_lc [("number", 3)] (by rfl) rfl sc__law_p_point.nd (ai_seq (ae_var 1)) (blkOk_by (own := [("number", 3)]) (N := N__law_p_point) (sc := defScope s__law_p_point) (by decide +kernel)) (fun _ _ _ _ _ => (ag_name (i := 3) (vs := [3]) (by decide) sc__law_p_point.nd rfl (by first | exact Or.inl rfl | exact Or.inr rfl))) (fun _ _ _ _ _ => ats_nil) (fun _ _ _ _ _ => (ae_op op_fdivW sr_divW (ae_var 3) (ae_var 2)))) aa_nil)) aa_nil))))))))
/-! ### _law_p_value -/
abbrev s__law_p_value : Stmt := topS 19
abbrev N__law_p_value : List Str := ["plane", "point", "count", "number"]
theorem sc__law_p_value : FnScope N__law_p_value ["plane", "point"] (defScope s__law_p_value) := ⟨rfl, rfl, rfl, by decide +kernel, rfl, by decide +kernel, by decide +kernel⟩
def as__law_p_value : AS := (aRet (aOp arAdd (aOp arMul (aOp arIx (aVar 0) (aC (.int 0))) (aOp arIx (aVar 1) (aC (.int 0)))) (aCB arSum (aCons (aLc (aZip (aCons (aOp arIx (aVar 0) (aC (.int 1))) (aCons (aOp arIx (aVar 1) (aC (.int 1))) aNil))) (aGt 2 (aGcons (aGn 2) (aGcons (aGn 3) aGnil))) aYes (aOp arMul (aVar 2) (aVar 3)) [2, 3]) aNil))))
theorem bd__law_p_value {P : Program} {w : World} {K : PySem.W.Frag} {mg : Str → Option Value} {base : Heap} (fx : Fx mg)  {f : Addr} (cdv : Value) (A : Around) (outer : List PySem.Env) (s : Shared) (H : Hp) (E : XK)
    (hr : Room 0 (A.deeper (envOfC "_law_p_value" (defScope s__law_p_value) s.heap.objs.size f cdv))) : ASsx (cxOf CX0 P w K mg base N__law_p_value "_law_p_value" (defScope s__law_p_value) f cdv A outer s H E).nox (defBody s__law_p_value) as__law_p_value :=
  (as_one (as_ret (ae_op op_addA sr_add (ae_op op_mulW sr_mulW (ae_ix (ae_var 0) ae_int) (ae_ix (ae_var 1) ae_int)) (ae_callB (cr_sum rfl) sn_sum (by rfl) fx.b_sum (by decide +kernel) (aa_cons (ae_lc [("count", 2), ("number", 3)] (by rfl) rfl sc__law_p_value.nd (ai_zip (by rfl) fx.b_zip (aa_cons (ae_ix (ae_var 0) ae_int) (aa_cons (ae_ix (ae_var 1) ae_int) aa_nil))) (blkOk_by (own := [("count", 2), ("number", 3)]) (N := N__law_p_value) (sc := defScope s__law_p_value) (by decide +kernel)) (fun _ _ _ _ _ => (ag_tup (m := 2) rfl (ags_cons (ag_name (i := 2) (vs := [2, 3]) (by decide) sc__law_p_value.nd rfl (by first | exact Or.inl rfl | exact Or.inr rfl)) (ags_cons (ag_name (i := 3) (vs := [2, 3]) (by decide) sc__law_p_value.nd rfl (by first | exact Or.inl rfl | exact Or.inr rfl)) ags_nil)))) (fun _ _ _ _ _ => ats_nil) (fun _ _ _ _ _ => (ae_op op_mulW sr_mulW (ae_var 2) (ae_var 3)))) aa_nil)))))
/-! ### _law_p_before -/
abbrev s__law_p_before : Stmt := topS 20
abbrev N__law_p_before : List Str := ["one", "other", "mine", "its"]
theorem sc__law_p_before : FnScope N__law_p_before ["one", "other"] (defScope s__law_p_before) := ⟨rfl, rfl, rfl, by decide +kernel, rfl, by decide +kernel, by decide +kernel⟩
def as__law_p_before : AS := (aSeq (aFor (aZip (aCons (aOp arIx (aVar 0) (aC (.int 1))) (aCons (aOp arIx (aVar 1) (aC (.int 1))) aNil))) (aGt 2 (aGcons (aGn 2) (aGcons (aGn 3) aGnil))) (aIfS (aTest (aOp (arEqD true) (aOp arMul (aVar 2) (aOp arIx (aVar 1) (aC (.int 0)))) (aOp arMul (aVar 3) (aOp arIx (aVar 0) (aC (.int 0)))))) (aRet (aOp arLt (aOp arMul (aVar 2) (aOp arIx (aVar 1) (aC (.int 0)))) (aOp arMul (aVar 3) (aOp arIx (aVar 0) (aC (.int 0)))))) aNext))
  (aRet (aC (.bl false))))
theorem bd__law_p_before {P : Program} {w : World} {K : PySem.W.Frag} {mg : Str → Option Value} {base : Heap} (fx : Fx mg)  {f : Addr} (cdv : Value) (A : Around) (outer : List PySem.Env) (s : Shared) (H : Hp) (E : XK)
    (hr : Room 0 (A.deeper (envOfC "_law_p_before" (defScope s__law_p_before) s.heap.objs.size f cdv))) : ASsx (cxOf CX0 P w K mg base N__law_p_before "_law_p_before" (defScope s__law_p_before) f cdv A outer s H E).nox (defBody s__law_p_before) as__law_p_before :=
  (as_cons (as_for PassesOwn.never rfl (ai_zip (by rfl) fx.b_zip (aa_cons (ae_ix (ae_var 0) ae_int) (aa_cons (ae_ix (ae_var 1) ae_int) aa_nil))) (ag_tup (m := 2) rfl (ags_cons (ag_name (i := 2) (vs := [2, 3]) (by decide) sc__law_p_before.nd rfl (by first | exact Or.inl rfl | exact Or.inr rfl)) (ags_cons (ag_name (i := 3) (vs := [2, 3]) (by decide) sc__law_p_before.nd rfl (by first | exact Or.inl rfl | exact Or.inr rfl)) ags_nil))) (as_one (as_if (at_cmp (op_neD hr.units) sr_NeD (ae_op op_mulW sr_mulW (ae_var 2) (ae_ix (ae_var 1) ae_int)) (ae_op op_mulW sr_mulW (ae_var 3) (ae_ix (ae_var 0) ae_int)) (nomark _)) (as_one (as_ret (ae_cmp op_lt sr_lt (ae_op op_mulW sr_mulW (ae_var 2) (ae_ix (ae_var 1) ae_int)) (ae_op op_mulW sr_mulW (ae_var 3) (ae_ix (ae_var 0) ae_int)) (nomark _)))) as_nil)))
    (as_one (as_ret ae_bl)))
/-! ### _law_p_sorted -/
abbrev s__law_p_sorted : Stmt := topS 21
abbrev N__law_p_sorted : List Str := ["points", "found", "point", "at", "one"]
theorem sc__law_p_sorted : FnScope N__law_p_sorted ["points"] (defScope s__law_p_sorted) := ⟨rfl, rfl, rfl, by decide +kernel, rfl, by decide +kernel, by decide +kernel⟩
def as__law_p_sorted : AS := (aSeq (aSet 1 (aLst aNil))
  (aSeq (aFor (aIt (aVar 0)) (aGn 2) (aSeq (aSet 3 (aCB arLen (aCons (aLc (aIt (aVar 1)) (aGn 4) (aTest (aCall asp__law_p_before (aCons (aVar 4) (aCons (aVar 2) aNil)))) (aC (.int 1)) [4]) aNil)))
  (aIfS (aTest (aOp (arInD true) (aVar 2) (aVar 1))) (aSet 1 (aOp arAdd (aOp arAdd (aSl (aVar 1) aNoPart (aPart (aVar 3))) (aLst (aCons (aVar 2) aNil))) (aSl (aVar 1) (aPart (aVar 3)) aNoPart))) aNext)))
  (aRet (aVar 1))))
theorem bd__law_p_sorted {P : Program} {w : World} {K : PySem.W.Frag} {mg : Str → Option Value} {base : Heap} (fx : Fx mg) (c__law_p_before : Cal P w K mg base 1 "_law_p_before" ["one", "other"] asp__law_p_before) {f : Addr} (cdv : Value) (A : Around) (outer : List PySem.Env) (s : Shared) (H : Hp) (E : XK)
    (hr : Room 1 (A.deeper (envOfC "_law_p_sorted" (defScope s__law_p_sorted) s.heap.objs.size f cdv))) : ASsx (cxOf CX0 P w K mg base N__law_p_sorted "_law_p_sorted" (defScope s__law_p_sorted) f cdv A outer s H E).nox (defBody s__law_p_sorted) as__law_p_sorted :=
  (as_cons (as_set (i := 1) sc__law_p_sorted.nd rfl (by first | exact Or.inl rfl | exact Or.inr rfl) (ae_lst aa_nil))
    (as_cons (as_for PassesOwn.never rfl (ai_seq (ae_var 0)) (ag_name (i := 2) (vs := [2]) (by decide) sc__law_p_sorted.nd rfl (by first | exact Or.inl rfl | exact Or.inr rfl)) (as_cons (as_set (i := 3) sc__law_p_sorted.nd rfl (by first | exact Or.inl rfl | exact Or.inr rfl) (ae_callB call_len sn_len (by rfl) fx.b_len (by decide +kernel) (aa_cons (ae_lc [("one", 4)] (by rfl) rfl sc__law_p_sorted.nd (ai_seq (ae_var 1)) (blkOk_by (own := [("one", 4)]) (N := N__law_p_sorted) (sc := defScope s__law_p_sorted) (by decide +kernel)) (fun _ _ _ _ _ => (ag_name (i := 4) (vs := [4]) (by decide) sc__law_p_sorted.nd rfl (by first | exact Or.inl rfl | exact Or.inr rfl))) (fun _ _ _ _ _ => (ats_one (at_val (ae_f c__law_p_before hr (by decide) (by rfl) (aa_cons (ae_var 4) (aa_cons (ae_var 2) aa_nil)))))) (fun _ _ _ _ _ => ae_int)) aa_nil)))
    (as_one (as_if (at_cmp (op_notInD (hu65 hr)) sr_niD (ae_var 2) (ae_var 1) rfl) (as_one (as_set (i := 1) sc__law_p_sorted.nd rfl (by first | exact Or.inl rfl | exact Or.inr rfl) (ae_op op_addA sr_add (ae_op op_addA sr_add (ae_slice (ae_var 1) ao_none (ao_some (ae_var 3))) (ae_lst (aa_cons (ae_var 2) aa_nil))) (ae_slice (ae_var 1) (ao_some (ae_var 3)) ao_none)))) as_nil))))
    (as_one (as_ret (ae_var 1)))))
/-! ### _law_p_side -/
abbrev s__law_p_side : Stmt := topS 22
abbrev N__law_p_side : List Str := ["one", "other", "third", "rows", "a", "b", "c", "d", "e", "f", "g", "h", "i", "point"]
theorem sc__law_p_side : FnScope N__law_p_side ["one", "other", "third"] (defScope s__law_p_side) := ⟨rfl, rfl, rfl, by decide +kernel, rfl, by decide +kernel, by decide +kernel⟩
def as__law_p_side : AS := (aSeq (aSet 3 (aLc (aIt (aTup (aCons (aVar 0) (aCons (aVar 1) (aCons (aVar 2) aNil))))) (aGn 13) aYes (aOp arAdd (aTup (aCons (aOp arIx (aVar 13) (aC (.int 0))) aNil)) (aCB arTuple (aCons (aOp arIx (aVar 13) (aC (.int 1))) aNil))) [13]))
  (aSeq (aAsg (aVar 3) (aGt 3 (aGcons (aGt 3 (aGcons (aGn 4) (aGcons (aGn 5) (aGcons (aGn 6) aGnil)))) (aGcons (aGt 3 (aGcons (aGn 7) (aGcons (aGn 8) (aGcons (aGn 9) aGnil)))) (aGcons (aGt 3 (aGcons (aGn 10) (aGcons (aGn 11) (aGcons (aGn 12) aGnil)))) aGnil)))))
  (aRet (aOp arAdd (aOp arSub (aOp arMul (aVar 4) (aOp arSub (aOp arMul (aVar 8) (aVar 12)) (aOp arMul (aVar 9) (aVar 11)))) (aOp arMul (aVar 5) (aOp arSub (aOp arMul (aVar 7) (aVar 12)) (aOp arMul (aVar 9) (aVar 10))))) (aOp arMul (aVar 6) (aOp arSub (aOp arMul (aVar 7) (aVar 11)) (aOp arMul (aVar 8) (aVar 10))))))))
theorem bd__law_p_side {P : Program} {w : World} {K : PySem.W.Frag} {mg : Str → Option Value} {base : Heap} (fx : Fx mg)  {f : Addr} (cdv : Value) (A : Around) (outer : List PySem.Env) (s : Shared) (H : Hp) (E : XK)
    (hr : Room 0 (A.deeper (envOfC "_law_p_side" (defScope s__law_p_side) s.heap.objs.size f cdv))) : ASsx (cxOf CX0 P w K mg base N__law_p_side "_law_p_side" (defScope s__law_p_side) f cdv A outer s H E).nox (defBody s__law_p_side) as__law_p_side :=
  (as_cons (as_setLc [("point", 13)] (by rfl) (i := 3) rfl sc__law_p_side.nd rfl rfl (sw_true rfl rfl rfl (by decide +kernel)) (ai_seq (ae_tup (aa_cons (ae_var 0) (aa_cons (ae_var 1) (aa_cons (ae_var 2) aa_nil))))) (blkOk_by (own := [("point", 13)]) (N := N__law_p_side) (sc := defScope s__law_p_side) (by decide +kernel)) (fun _ _ _ _ _ => (ag_name (i := 13) (vs := [13]) (by decide) sc__law_p_side.nd rfl (by first | exact Or.inl rfl | exact Or.inr rfl))) (fun _ _ _ _ _ => ats_nil) (fun _ _ _ _ _ => (ae_op op_addA sr_add (ae_tup (aa_cons (ae_ix (ae_var 13) ae_int) aa_nil)) (ae_callTy call_tuple_of sn_tuple (by rfl) fx.b_tuple (by decide +kernel) (aa_cons (ae_ix (ae_var 13) ae_int) aa_nil)))))
    (as_cons (as_asg (ae_var 3) (ag_tup (m := 3) rfl (ags_cons (ag_tup (m := 3) rfl (ags_cons (ag_name (i := 4) (vs := [4, 5, 6, 7, 8, 9, 10, 11, 12]) (by decide) sc__law_p_side.nd rfl (by first | exact Or.inl rfl | exact Or.inr rfl)) (ags_cons (ag_name (i := 5) (vs := [4, 5, 6, 7, 8, 9, 10, 11, 12]) (by decide) sc__law_p_side.nd rfl (by first | exact Or.inl rfl | exact Or.inr rfl)) (ags_cons (ag_name (i := 6) (vs := [4, 5, 6, 7, 8, 9, 10, 11, 12]) (by decide) sc__law_p_side.nd rfl (by first | exact Or.inl rfl | exact Or.inr rfl)) ags_nil)))) (ags_cons (ag_tup (m := 3) rfl (ags_cons (ag_name (i := 7) (vs := [4, 5, 6, 7, 8, 9, 10, 11, 12]) (by decide) sc__law_p_side.nd rfl (by first | exact Or.inl rfl | exact Or.inr rfl)) (ags_cons (ag_name (i := 8) (vs := [4, 5, 6, 7, 8, 9, 10, 11, 12]) (by decide) sc__law_p_side.nd rfl (by first | exact Or.inl rfl | exact Or.inr rfl)) (ags_cons (ag_name (i := 9) (vs := [4, 5, 6, 7, 8, 9, 10, 11, 12]) (by decide) sc__law_p_side.nd rfl (by first | exact Or.inl rfl | exact Or.inr rfl)) ags_nil)))) (ags_cons (ag_tup (m := 3) rfl (ags_cons (ag_name (i := 10) (vs := [4, 5, 6, 7, 8, 9, 10, 11, 12]) (by decide) sc__law_p_side.nd rfl (by first | exact Or.inl rfl | exact Or.inr rfl)) (ags_cons (ag_name (i := 11) (vs := [4, 5, 6, 7, 8, 9, 10, 11, 12]) (by decide) sc__law_p_side.nd rfl (by first | exact Or.inl rfl | exact Or.inr rfl)) (ags_cons (ag_name (i := 12) (vs := [4, 5, 6, 7, 8, 9, 10, 11, 12]) (by decide) sc__law_p_side.nd rfl (by first | exact Or.inl rfl | exact Or.inr rfl)) ags_nil)))) ags_nil)))))
    (as_one (as_ret (ae_op op_addA sr_add (ae_op op_sub sr_sub (ae_op op_mulW sr_mulW (ae_var 4) (ae_op op_sub sr_sub (ae_op op_mulW sr_mulW (ae_var 8) (ae_var 12)) (ae_op op_mulW sr_mulW (ae_var 9) (ae_var 11)))) (ae_op op_mulW sr_mulW (ae_var 5) (ae_op op_sub sr_sub (ae_op op_mulW sr_mulW (ae_var 7) (ae_var 12)) (ae_op op_mulW sr_mulW (ae_var 9) (ae_var 10))))) (ae_op op_mulW sr_mulW (ae_var 6) (ae_op op_sub sr_sub (ae_op op_mulW sr_mulW (ae_var 7) (ae_var 11)) (ae_op op_mulW sr_mulW (ae_var 8) (ae_var 10)))))))))
/-! ### _law_p_around -/
abbrev s__law_p_around : Stmt := topS 23
abbrev N__law_p_around : List Str := ["points", "under", "above_it", "point"]
theorem sc__law_p_around : FnScope N__law_p_around ["points"] (defScope s__law_p_around) := ⟨rfl, rfl, rfl, by decide +kernel, rfl, by decide +kernel, by decide +kernel⟩
def as__law_p_around : AS := (aSeq (aIfS (aTest (aOp arLt (aCB arLen (aCons (aVar 0) aNil)) (aC (.int 3)))) (aRet (aCB arTuple (aCons (aVar 0) aNil))) aNext)
  (aSeq (aPar 1 2 (aCons (aLst aNil) (aCons (aLst aNil) aNil)))
  (aSeq (aFor (aIt (aVar 0)) (aGn 3) (aSeq (aWhile (aAnd (aTest (aOp arGt (aCB arLen (aCons (aVar 1) aNil)) (aC (.int 1)))) (aTest (aOp arLe (aCall asp__law_p_side (aCons (aOp arIx (aVar 1) (aUn arNeg (aC (.int 2)))) (aCons (aOp arIx (aVar 1) (aUn arNeg (aC (.int 1)))) (aCons (aVar 3) aNil)))) (aC (.int 0))))) (aSet 1 (aSl (aVar 1) aNoPart (aPart (aUn arNeg (aC (.int 1)))))))
  (aSeq (aSet 1 (aOp arAdd (aVar 1) (aLst (aCons (aVar 3) aNil))))
  (aSeq (aWhile (aAnd (aTest (aOp arGt (aCB arLen (aCons (aVar 2) aNil)) (aC (.int 1)))) (aTest (aOp arGe (aCall asp__law_p_side (aCons (aOp arIx (aVar 2) (aUn arNeg (aC (.int 2)))) (aCons (aOp arIx (aVar 2) (aUn arNeg (aC (.int 1)))) (aCons (aVar 3) aNil)))) (aC (.int 0))))) (aSet 2 (aSl (aVar 2) aNoPart (aPart (aUn arNeg (aC (.int 1)))))))
  (aSet 2 (aOp arAdd (aVar 2) (aLst (aCons (aVar 3) aNil))))))))
  (aRet (aCB arTuple (aCons (aOp arAdd (aVar 1) (aRev (aSl (aVar 2) (aPart (aC (.int 1))) (aPart (aUn arNeg (aC (.int 1))))))) aNil))))))
theorem bd__law_p_around {P : Program} {w : World} {K : PySem.W.Frag} {mg : Str → Option Value} {base : Heap} (fx : Fx mg) (c__law_p_side : Cal P w K mg base 1 "_law_p_side" ["one", "other", "third"] asp__law_p_side) {f : Addr} (cdv : Value) (A : Around) (outer : List PySem.Env) (s : Shared) (H : Hp) (E : XK)
    (hr : Room 1 (A.deeper (envOfC "_law_p_around" (defScope s__law_p_around) s.heap.objs.size f cdv))) : ASsx (cxOf CX0 P w K mg base N__law_p_around "_law_p_around" (defScope s__law_p_around) f cdv A outer s H E).nox (defBody s__law_p_around) as__law_p_around :=
  (as_cons (as_if (at_cmp op_lt sr_lt (ae_callB call_len sn_len (by rfl) fx.b_len (by decide +kernel) (aa_cons (ae_var 0) aa_nil)) ae_int (nomark _)) (as_one (as_ret (ae_callTy call_tuple_of sn_tuple (by rfl) fx.b_tuple (by decide +kernel) (aa_cons (ae_var 0) aa_nil)))) as_nil)
    (as_cons (as_par (i := 1) (j := 2) rfl sc__law_p_around.nd rfl rfl (by decide) rfl rfl (aa_cons (ae_lst aa_nil) (aa_cons (ae_lst aa_nil) aa_nil)) (by rfl))
    (as_cons (as_for PassesOwn.never rfl (ai_seq (ae_var 0)) (ag_name (i := 3) (vs := [3]) (by decide) sc__law_p_around.nd rfl (by first | exact Or.inl rfl | exact Or.inr rfl)) (as_cons (as_while PassesOwn.never (AW.at (aw_and (at_cmp op_gt sr_gt (ae_callB call_len sn_len (by rfl) fx.b_len (by decide +kernel) (aa_cons (ae_var 1) aa_nil)) ae_int (nomark _)) (aw_and1 (at_cmp op_le sr_le (ae_f c__law_p_side hr (by decide) (by rfl) (aa_cons (ae_ix (ae_var 1) (ae_neg ae_int)) (aa_cons (ae_ix (ae_var 1) (ae_neg ae_int)) (aa_cons (ae_var 3) aa_nil)))) ae_int (nomark _))))) (as_one (as_set (i := 1) sc__law_p_around.nd rfl (by first | exact Or.inl rfl | exact Or.inr rfl) (ae_slice (ae_var 1) ao_none (ao_some (ae_neg ae_int))))))
    (as_cons (as_set (i := 1) sc__law_p_around.nd rfl (by first | exact Or.inl rfl | exact Or.inr rfl) (ae_op op_addA sr_add (ae_var 1) (ae_lst (aa_cons (ae_var 3) aa_nil))))
    (as_cons (as_while PassesOwn.never (AW.at (aw_and (at_cmp op_gt sr_gt (ae_callB call_len sn_len (by rfl) fx.b_len (by decide +kernel) (aa_cons (ae_var 2) aa_nil)) ae_int (nomark _)) (aw_and1 (at_cmp op_ge sr_ge (ae_f c__law_p_side hr (by decide) (by rfl) (aa_cons (ae_ix (ae_var 2) (ae_neg ae_int)) (aa_cons (ae_ix (ae_var 2) (ae_neg ae_int)) (aa_cons (ae_var 3) aa_nil)))) ae_int (nomark _))))) (as_one (as_set (i := 2) sc__law_p_around.nd rfl (by first | exact Or.inl rfl | exact Or.inr rfl) (ae_slice (ae_var 2) ao_none (ao_some (ae_neg ae_int))))))
    (as_one (as_set (i := 2) sc__law_p_around.nd rfl (by first | exact Or.inl rfl | exact Or.inr rfl) (ae_op op_addA sr_add (ae_var 2) (ae_lst (aa_cons (ae_var 3) aa_nil)))))))))
    (as_one (as_ret (ae_callTy call_tuple_of sn_tuple (by rfl) fx.b_tuple (by decide +kernel) (aa_cons (ae_op op_addA sr_add (ae_var 1) (ae_rev (ae_slice (ae_var 2) (ao_some ae_int) (ao_some (ae_neg ae_int))))) aa_nil)))))))
/-! ### _law_p_mixture -/
abbrev s__law_p_mixture : Stmt := topS 24
abbrev N__law_p_mixture : List Str := ["pen", "points", "parts", "whole_q", "point", "numbers", "at", "part"]
theorem sc__law_p_mixture : FnScope N__law_p_mixture ["pen", "points"] (defScope s__law_p_mixture) := ⟨rfl, rfl, rfl, by decide +kernel, rfl, by decide +kernel, by decide +kernel⟩
def as__law_p_mixture : AS := (aSeq (aSetO 2 (aLc (aIt (aVar 1)) (aGn 4) aYes (aCall asp__law_draw (aCons (aVar 0) (aCons (aC (.int 4)) aNil))) [4]))
  (aSeq (aSto 2 (aOp arAdd (aC (.int 1)) (aCall asp__law_draw (aCons (aVar 0) (aCons (aC (.int 5)) aNil)))) (aCall asp__law_draw (aCons (aVar 0) (aCons (aCB arLen (aCons (aVar 2) aNil)) aNil))))
  (aFrz 2 (aSeq (aSet 3 (aC (.int 1)))
  (aSeq (aFor (aIt (aVar 1)) (aGn 4) (aSet 3 (aOp arMul (aVar 3) (aOp arIx (aVar 4) (aC (.int 0))))))
  (aSeq (aSetO 5 (aLst aNil))
  (aSeq (aFor (aRng1 (aCB arLen (aCons (aOp arIx (aOp arIx (aVar 1) (aC (.int 0))) (aC (.int 1))) aNil))) (aGn 6) (aApp 5 (aCB arSum (aCons (aLc (aZip (aCons (aVar 2) (aCons (aVar 1) aNil))) (aGt 2 (aGcons (aGn 7) (aGcons (aGn 4) aGnil))) aYes (aOp arMul (aOp arMul (aVar 7) (aOp arIx (aOp arIx (aVar 4) (aC (.int 1))) (aVar 6))) (aOp arDiv (aVar 3) (aOp arIx (aVar 4) (aC (.int 0))))) [7, 4]) aNil))))
  (aFrz 5 (aRet (aCall asp__law_p_point (aCons (aOp arMul (aVar 3) (aCB arSum (aCons (aVar 2) aNil))) (aCons (aVar 5) aNil))))))))))))
theorem bd__law_p_mixture {P : Program} {w : World} {K : PySem.W.Frag} {mg : Str → Option Value} {base : Heap} (fx : Fx mg) (c__law_draw : Cal P w K mg base 1 "_law_draw" ["pen", "many"] asp__law_draw) (c__law_p_point : Cal P w K mg base 2 "_law_p_point" ["q", "numbers"] asp__law_p_point) {f : Addr} (cdv : Value) (A : Around) (outer : List PySem.Env) (s : Shared) (H : Hp) (E : XK)
    (hr : Room 2 (A.deeper (envOfC "_law_p_mixture" (defScope s__law_p_mixture) s.heap.objs.size f cdv))) : ASsx (cxOf CX0 P w K mg base N__law_p_mixture "_law_p_mixture" (defScope s__law_p_mixture) f cdv A outer s H E).nox (defBody s__law_p_mixture) as__law_p_mixture :=
  (as_cons (as_setLcO [("point", 4)] (by rfl) (i := 2) rfl sc__law_p_mixture.nd rfl rfl (sw_true rfl rfl rfl (by decide +kernel)) (ai_seq (ae_var 1)) (blkOk_by (own := [("point", 4)]) (N := N__law_p_mixture) (sc := defScope s__law_p_mixture) (by decide +kernel)) (fun _ _ _ _ _ => (ag_name (i := 4) (vs := [4]) (by decide) sc__law_p_mixture.nd rfl (by first | exact Or.inl rfl | exact Or.inr rfl))) (fun _ _ _ _ _ => ats_nil) (fun _ _ _ _ _ => (ae_f c__law_draw hr (by decide) (by rfl) (aa_cons (ae_var 0) (aa_cons ae_int aa_nil)))))
    (as_cons (as_sto (i := 2) rfl (by first | exact Or.inl rfl | exact Or.inr (Or.inl rfl) | exact Or.inr (Or.inr rfl)) (ae_op op_addA sr_add ae_int (ae_f c__law_draw hr (by decide) (by rfl) (aa_cons (ae_var 0) (aa_cons ae_int aa_nil)))) (ae_f c__law_draw hr (by decide) (by rfl) (aa_cons (ae_var 0) (aa_cons (ae_callB call_len sn_len (by rfl) fx.b_len (by decide +kernel) (aa_cons (ae_var 2) aa_nil)) aa_nil))))
    (as_frz 2 (as_cons (as_set (i := 3) sc__law_p_mixture.nd rfl (by first | exact Or.inl rfl | exact Or.inr rfl) ae_int)
    (as_cons (as_for PassesOwn.never rfl (ai_seq (ae_var 1)) (ag_name (i := 4) (vs := [4]) (by decide) sc__law_p_mixture.nd rfl (by first | exact Or.inl rfl | exact Or.inr rfl)) (as_one (as_set (i := 3) sc__law_p_mixture.nd rfl (by first | exact Or.inl rfl | exact Or.inr rfl) (ae_op op_mulW sr_mulW (ae_var 3) (ae_ix (ae_var 4) ae_int)))))
    (as_cons (as_setO (i := 5) sc__law_p_mixture.nd rfl (by first | exact Or.inl rfl | exact Or.inr rfl) (ae_lst aa_nil))
    (as_cons (as_for PassesOwn.never rfl (ai_range1 (by rfl) fx.b_range (ae_callB call_len sn_len (by rfl) fx.b_len (by decide +kernel) (aa_cons (ae_ix (ae_ix (ae_var 1) ae_int) ae_int) aa_nil))) (ag_name (i := 6) (vs := [6]) (by decide) sc__law_p_mixture.nd rfl (by first | exact Or.inl rfl | exact Or.inr rfl)) (as_one (as_app (i := 5) rfl (by first | exact Or.inl rfl | exact Or.inr (Or.inl rfl) | exact Or.inr (Or.inr rfl)) (ae_callB (cr_sum rfl) sn_sum (by rfl) fx.b_sum (by decide +kernel) (aa_cons (ae_lc [("part", 7), ("point", 4)] (by rfl) rfl sc__law_p_mixture.nd (ai_zip (by rfl) fx.b_zip (aa_cons (ae_var 2) (aa_cons (ae_var 1) aa_nil))) (blkOk_by (own := [("part", 7), ("point", 4)]) (N := N__law_p_mixture) (sc := defScope s__law_p_mixture) (by decide +kernel)) (fun _ _ _ _ _ => (ag_tup (m := 2) rfl (ags_cons (ag_name (i := 7) (vs := [7, 4]) (by decide) sc__law_p_mixture.nd rfl (by first | exact Or.inl rfl | exact Or.inr rfl)) (ags_cons (ag_name (i := 4) (vs := [7, 4]) (by decide) sc__law_p_mixture.nd rfl (by first | exact Or.inl rfl | exact Or.inr rfl)) ags_nil)))) (fun _ _ _ _ _ => ats_nil) (fun _ _ _ _ _ => (ae_op op_mulW sr_mulW (ae_op op_mulW sr_mulW (ae_var 7) (ae_ix (ae_ix (ae_var 4) ae_int) (ae_var 6))) (ae_op op_fdivW sr_divW (ae_var 3) (ae_ix (ae_var 4) ae_int))))) aa_nil)))))
    (as_frz 5 (as_one (as_ret (ae_f c__law_p_point hr (by decide) (by rfl) (aa_cons (ae_op op_mulW sr_mulW (ae_var 3) (ae_callB (cr_sum rfl) sn_sum (by rfl) fx.b_sum (by decide +kernel) (aa_cons (ae_var 2) aa_nil))) (aa_cons (ae_var 5) aa_nil)))))))))))))
/-! ### _law_b_lowest -/
abbrev s__law_b_lowest : Stmt := topS 25
abbrev N__law_b_lowest : List Str := ["base", "counts", "part", "number", "count"]
theorem sc__law_b_lowest : FnScope N__law_b_lowest ["base", "counts"] (defScope s__law_b_lowest) := ⟨rfl, rfl, rfl, by decide +kernel, rfl, by decide +kernel, by decide +kernel⟩
def as__law_b_lowest : AS := (aSeq (aSet 2 (aC (.int 0)))
  (aSeq (aFor (aIt (aOp arAdd (aTup (aCons (aVar 0) aNil)) (aCB arTuple (aCons (aVar 1) aNil)))) (aGn 3) (aSet 2 (aCall asp__law_p_gcd (aCons (aVar 2) (aCons (aVar 3) aNil)))))
  (aRet (aTup (aCons (aOp arDiv (aVar 0) (aVar 2)) (aCons (aCB arTuple (aCons (aLc (aIt (aVar 1)) (aGn 4) aYes (aOp arDiv (aVar 4) (aVar 2)) [4]) aNil)) aNil))))))
theorem bd__law_b_lowest {P : Program} {w : World} {K : PySem.W.Frag} {mg : Str → Option Value} {base : Heap} (fx : Fx mg) (c__law_p_gcd : Cal P w K mg base 1 "_law_p_gcd" ["one", "other"] asp__law_p_gcd) {f : Addr} (cdv : Value) (A : Around) (outer : List PySem.Env) (s : Shared) (H : Hp) (E : XK)
    (hr : Room 1 (A.deeper (envOfC "_law_b_lowest" (defScope s__law_b_lowest) s.heap.objs.size f cdv))) : ASsx (cxOf CX0 P w K mg base N__law_b_lowest "_law_b_lowest" (defScope s__law_b_lowest) f cdv A outer s H E).nox (defBody s__law_b_lowest) as__law_b_lowest :=
  (as_cons (as_set (i := 2) sc__law_b_lowest.nd rfl (by first | exact Or.inl rfl | exact Or.inr rfl) ae_int)
    (as_cons (as_for PassesOwn.never rfl (ai_seq (ae_op op_addA sr_add (ae_tup (aa_cons (ae_var 0) aa_nil)) (ae_callTy call_tuple_of sn_tuple (by rfl) fx.b_tuple (by decide +kernel) (aa_cons (ae_var 1) aa_nil)))) (ag_name (i := 3) (vs := [3]) (by decide) sc__law_b_lowest.nd rfl (by first | exact Or.inl rfl | exact Or.inr rfl)) (as_one (as_set (i := 2) sc__law_b_lowest.nd rfl (by first | exact Or.inl rfl | exact Or.inr rfl) (ae_f c__law_p_gcd hr (by decide) (by rfl) (aa_cons (ae_var 2) (aa_cons (ae_var 3) aa_nil))))))
    (as_one (as_ret (ae_tup (aa_cons (ae_op op_fdivW sr_divW (ae_var 0) (ae_var 2)) (aa_cons (ae_callTy call_tuple_of sn_tuple (by rfl) fx.b_tuple (by decide +kernel) (aa_cons (ae_lc [("count", 4)] (by rfl) rfl sc__law_b_lowest.nd (ai_seq (ae_var 1)) (blkOk_by (own := [("count", 4)]) (N := N__law_b_lowest) (sc := defScope s__law_b_lowest) (by decide +kernel)) (fun _ _ _ _ _ => (ag_name (i := 4) (vs := [4]) (by decide) sc__law_b_lowest.nd rfl (by first | exact Or.inl rfl | exact Or.inr rfl))) (fun _ _ _ _ _ => ats_nil) (fun _ _ _ _ _ => (ae_op op_fdivW sr_divW (ae_var 4) (ae_var 2)))) aa_nil)) aa_nil)))))))
/-! ### _law_b_through -/
abbrev s__law_b_through : Stmt := topS 26
abbrev N__law_b_through : List Str := ["one", "other", "q", "its", "x", "y", "u", "v", "across", "up"]
theorem sc__law_b_through : FnScope N__law_b_through ["one", "other"] (defScope s__law_b_through) := ⟨rfl, rfl, rfl, by decide +kernel, rfl, by decide +kernel, by decide +kernel⟩
def as__law_b_through : AS := (aSeq (aAsg (aTup (aCons (aVar 0) (aCons (aVar 1) aNil))) (aGt 2 (aGcons (aGt 2 (aGcons (aGn 2) (aGcons (aGt 2 (aGcons (aGn 4) (aGcons (aGn 5) aGnil))) aGnil))) (aGcons (aGt 2 (aGcons (aGn 3) (aGcons (aGt 2 (aGcons (aGn 6) (aGcons (aGn 7) aGnil))) aGnil))) aGnil))))
  (aSeq (aPar 8 9 (aCons (aOp arSub (aOp arMul (aVar 6) (aVar 2)) (aOp arMul (aVar 4) (aVar 3))) (aCons (aOp arSub (aOp arMul (aVar 7) (aVar 2)) (aOp arMul (aVar 5) (aVar 3))) aNil)))
  (aRet (aCall asp__law_b_lowest (aCons (aOp arSub (aC (.int 0)) (aOp arSub (aOp arMul (aVar 9) (aVar 4)) (aOp arMul (aVar 8) (aVar 5)))) (aCons (aTup (aCons (aOp arMul (aVar 9) (aVar 2)) (aCons (aOp arSub (aC (.int 0)) (aOp arMul (aVar 8) (aVar 2))) aNil))) aNil))))))
theorem bd__law_b_through {P : Program} {w : World} {K : PySem.W.Frag} {mg : Str → Option Value} {base : Heap} (c__law_b_lowest : Cal P w K mg base 2 "_law_b_lowest" ["base", "counts"] asp__law_b_lowest) {f : Addr} (cdv : Value) (A : Around) (outer : List PySem.Env) (s : Shared) (H : Hp) (E : XK)
    (hr : Room 2 (A.deeper (envOfC "_law_b_through" (defScope s__law_b_through) s.heap.objs.size f cdv))) : ASsx (cxOf CX0 P w K mg base N__law_b_through "_law_b_through" (defScope s__law_b_through) f cdv A outer s H E).nox (defBody s__law_b_through) as__law_b_through :=
  (as_cons (as_asg (ae_tup (aa_cons (ae_var 0) (aa_cons (ae_var 1) aa_nil))) (ag_tup (m := 2) rfl (ags_cons (ag_tup (m := 2) rfl (ags_cons (ag_name (i := 2) (vs := [2, 3, 4, 5, 6, 7]) (by decide) sc__law_b_through.nd rfl (by first | exact Or.inl rfl | exact Or.inr rfl)) (ags_cons (ag_tup (m := 2) rfl (ags_cons (ag_name (i := 4) (vs := [2, 3, 4, 5, 6, 7]) (by decide) sc__law_b_through.nd rfl (by first | exact Or.inl rfl | exact Or.inr rfl)) (ags_cons (ag_name (i := 5) (vs := [2, 3, 4, 5, 6, 7]) (by decide) sc__law_b_through.nd rfl (by first | exact Or.inl rfl | exact Or.inr rfl)) ags_nil))) ags_nil))) (ags_cons (ag_tup (m := 2) rfl (ags_cons (ag_name (i := 3) (vs := [2, 3, 4, 5, 6, 7]) (by decide) sc__law_b_through.nd rfl (by first | exact Or.inl rfl | exact Or.inr rfl)) (ags_cons (ag_tup (m := 2) rfl (ags_cons (ag_name (i := 6) (vs := [2, 3, 4, 5, 6, 7]) (by decide) sc__law_b_through.nd rfl (by first | exact Or.inl rfl | exact Or.inr rfl)) (ags_cons (ag_name (i := 7) (vs := [2, 3, 4, 5, 6, 7]) (by decide) sc__law_b_through.nd rfl (by first | exact Or.inl rfl | exact Or.inr rfl)) ags_nil))) ags_nil))) ags_nil))))
    (as_cons (as_par (i := 8) (j := 9) rfl sc__law_b_through.nd rfl rfl (by decide) rfl rfl (aa_cons (ae_op op_sub sr_sub (ae_op op_mulW sr_mulW (ae_var 6) (ae_var 2)) (ae_op op_mulW sr_mulW (ae_var 4) (ae_var 3))) (aa_cons (ae_op op_sub sr_sub (ae_op op_mulW sr_mulW (ae_var 7) (ae_var 2)) (ae_op op_mulW sr_mulW (ae_var 5) (ae_var 3))) aa_nil)) (by rfl))
    (as_one (as_ret (ae_f c__law_b_lowest hr (by decide) (by rfl) (aa_cons (ae_op op_sub sr_sub ae_int (ae_op op_sub sr_sub (ae_op op_mulW sr_mulW (ae_var 9) (ae_var 4)) (ae_op op_mulW sr_mulW (ae_var 8) (ae_var 5)))) (aa_cons (ae_tup (aa_cons (ae_op op_mulW sr_mulW (ae_var 9) (ae_var 2)) (aa_cons (ae_op op_sub sr_sub ae_int (ae_op op_mulW sr_mulW (ae_var 8) (ae_var 2))) aa_nil))) aa_nil)))))))
/-! ### _law_b_lines -/
abbrev s__law_b_lines : Stmt := topS 27
abbrev N__law_b_lines : List Str := ["corners", "q", "its", "low", "high", "x", "y", "u", "v", "across", "up", "there", "back", "one", "other"]
theorem sc__law_b_lines : FnScope N__law_b_lines ["corners"] (defScope s__law_b_lines) := ⟨rfl, rfl, rfl, by decide +kernel, rfl, by decide +kernel, by decide +kernel⟩
def as__law_b_lines : AS := (aSeq (aIfS (aTest (aOp (arEqD false) (aCB arLen (aCons (aOp arIx (aOp arIx (aVar 0) (aC (.int 0))) (aC (.int 1))) aNil)) (aC (.int 1)))) (aSeq (aAsg (aTup (aCons (aOp arIx (aVar 0) (aC (.int 0))) (aCons (aOp arIx (aVar 0) (aUn arNeg (aC (.int 1)))) aNil))) (aGt 2 (aGcons (aGt 2 (aGcons (aGn 1) (aGcons (aGt 1 (aGcons (aGn 3) aGnil)) aGnil))) (aGcons (aGt 2 (aGcons (aGn 2) (aGcons (aGt 1 (aGcons (aGn 4) aGnil)) aGnil))) aGnil))))
  (aRet (aLst (aCons (aCall asp__law_b_lowest (aCons (aVar 3) (aCons (aTup (aCons (aOp arSub (aC (.int 0)) (aVar 1)) aNil)) aNil))) (aCons (aCall asp__law_b_lowest (aCons (aOp arSub (aC (.int 0)) (aVar 4)) (aCons (aTup (aCons (aVar 2) aNil)) aNil))) aNil))))) aNext)
  (aSeq (aIfS (aTest (aOp (arEqD false) (aCB arLen (aCons (aVar 0) aNil)) (aC (.int 1)))) (aSeq (aAsg (aOp arIx (aVar 0) (aC (.int 0))) (aGt 2 (aGcons (aGn 1) (aGcons (aGt 2 (aGcons (aGn 5) (aGcons (aGn 6) aGnil))) aGnil))))
  (aRet (aLst (aCons (aCall asp__law_b_lowest (aCons (aVar 5) (aCons (aTup (aCons (aOp arSub (aC (.int 0)) (aVar 1)) (aCons (aC (.int 0)) aNil))) aNil))) (aCons (aCall asp__law_b_lowest (aCons (aOp arSub (aC (.int 0)) (aVar 5)) (aCons (aTup (aCons (aVar 1) (aCons (aC (.int 0)) aNil))) aNil))) (aCons (aCall asp__law_b_lowest (aCons (aVar 6) (aCons (aTup (aCons (aC (.int 0)) (aCons (aOp arSub (aC (.int 0)) (aVar 1)) aNil))) aNil))) (aCons (aCall asp__law_b_lowest (aCons (aOp arSub (aC (.int 0)) (aVar 6)) (aCons (aTup (aCons (aC (.int 0)) (aCons (aVar 1) aNil))) aNil))) aNil))))))) aNext)
  (aSeq (aIfS (aTest (aOp arGt (aCB arLen (aCons (aVar 0) aNil)) (aC (.int 2)))) (aRet (aLc (aZip (aCons (aVar 0) (aCons (aOp arAdd (aSl (aVar 0) (aPart (aC (.int 1))) aNoPart) (aSl (aVar 0) aNoPart (aPart (aC (.int 1))))) aNil))) (aGt 2 (aGcons (aGn 13) (aGcons (aGn 14) aGnil))) aYes (aCall asp__law_b_through (aCons (aVar 13) (aCons (aVar 14) aNil))) [13, 14])) aNext)
  (aSeq (aAsg (aVar 0) (aGt 2 (aGcons (aGt 2 (aGcons (aGn 1) (aGcons (aGt 2 (aGcons (aGn 5) (aGcons (aGn 6) aGnil))) aGnil))) (aGcons (aGt 2 (aGcons (aGn 2) (aGcons (aGt 2 (aGcons (aGn 7) (aGcons (aGn 8) aGnil))) aGnil))) aGnil))))
  (aSeq (aPar 9 10 (aCons (aOp arSub (aOp arMul (aVar 7) (aVar 1)) (aOp arMul (aVar 5) (aVar 2))) (aCons (aOp arSub (aOp arMul (aVar 8) (aVar 1)) (aOp arMul (aVar 6) (aVar 2))) aNil)))
  (aSeq (aPar 11 12 (aCons (aCall asp__law_b_through (aCons (aOp arIx (aVar 0) (aC (.int 0))) (aCons (aOp arIx (aVar 0) (aC (.int 1))) aNil))) (aCons (aCall asp__law_b_through (aCons (aOp arIx (aVar 0) (aC (.int 1))) (aCons (aOp arIx (aVar 0) (aC (.int 0))) aNil))) aNil)))
  (aRet (aLst (aCons (aVar 11) (aCons (aVar 12) (aCons (aCall asp__law_b_lowest (aCons (aOp arAdd (aOp arMul (aVar 9) (aVar 5)) (aOp arMul (aVar 10) (aVar 6))) (aCons (aTup (aCons (aOp arSub (aC (.int 0)) (aOp arMul (aVar 9) (aVar 1))) (aCons (aOp arSub (aC (.int 0)) (aOp arMul (aVar 10) (aVar 1))) aNil))) aNil))) (aCons (aCall asp__law_b_lowest (aCons (aOp arSub (aOp arSub (aC (.int 0)) (aOp arMul (aVar 9) (aVar 7))) (aOp arMul (aVar 10) (aVar 8))) (aCons (aTup (aCons (aOp arMul (aVar 9) (aVar 2)) (aCons (aOp arMul (aVar 10) (aVar 2)) aNil))) aNil))) aNil))))))))))))
theorem bd__law_b_lines {P : Program} {w : World} {K : PySem.W.Frag} {mg : Str → Option Value} {base : Heap} (fx : Fx mg) (c__law_b_lowest : Cal P w K mg base 2 "_law_b_lowest" ["base", "counts"] asp__law_b_lowest) (c__law_b_through : Cal P w K mg base 3 "_law_b_through" ["one", "other"] asp__law_b_through) {f : Addr} (cdv : Value) (A : Around) (outer : List PySem.Env) (s : Shared) (H : Hp) (E : XK)
    (hr : Room 3 (A.deeper (envOfC "_law_b_lines" (defScope s__law_b_lines) s.heap.objs.size f cdv))) : ASsx (cxOf CX0 P w K mg base N__law_b_lines "_law_b_lines" (defScope s__law_b_lines) f cdv A outer s H E).nox (defBody s__law_b_lines) as__law_b_lines :=
  (as_cons (as_if (at_cmp (op_eqD hr.units) sr_EqD (ae_callB call_len sn_len (by rfl) fx.b_len (by decide +kernel) (aa_cons (ae_ix (ae_ix (ae_var 0) ae_int) ae_int) aa_nil)) ae_int (nomark _)) (as_cons (as_asg (ae_tup (aa_cons (ae_ix (ae_var 0) ae_int) (aa_cons (ae_ix (ae_var 0) (ae_neg ae_int)) aa_nil))) (ag_tup (m := 2) rfl (ags_cons (ag_tup (m := 2) rfl (ags_cons (ag_name (i := 1) (vs := [1, 2, 3, 4]) (by decide) sc__law_b_lines.nd rfl (by first | exact Or.inl rfl | exact Or.inr rfl)) (ags_cons (ag_tup (m := 1) rfl (ags_cons (ag_name (i := 3) (vs := [1, 2, 3, 4]) (by decide) sc__law_b_lines.nd rfl (by first | exact Or.inl rfl | exact Or.inr rfl)) ags_nil)) ags_nil))) (ags_cons (ag_tup (m := 2) rfl (ags_cons (ag_name (i := 2) (vs := [1, 2, 3, 4]) (by decide) sc__law_b_lines.nd rfl (by first | exact Or.inl rfl | exact Or.inr rfl)) (ags_cons (ag_tup (m := 1) rfl (ags_cons (ag_name (i := 4) (vs := [1, 2, 3, 4]) (by decide) sc__law_b_lines.nd rfl (by first | exact Or.inl rfl | exact Or.inr rfl)) ags_nil)) ags_nil))) ags_nil))))
    (as_one (as_ret (ae_lst (aa_cons (ae_f c__law_b_lowest hr (by decide) (by rfl) (aa_cons (ae_var 3) (aa_cons (ae_tup (aa_cons (ae_op op_sub sr_sub ae_int (ae_var 1)) aa_nil)) aa_nil))) (aa_cons (ae_f c__law_b_lowest hr (by decide) (by rfl) (aa_cons (ae_op op_sub sr_sub ae_int (ae_var 4)) (aa_cons (ae_tup (aa_cons (ae_var 2) aa_nil)) aa_nil))) aa_nil)))))) as_nil)
    (as_cons (as_if (at_cmp (op_eqD hr.units) sr_EqD (ae_callB call_len sn_len (by rfl) fx.b_len (by decide +kernel) (aa_cons (ae_var 0) aa_nil)) ae_int (nomark _)) (as_cons (as_asg (ae_ix (ae_var 0) ae_int) (ag_tup (m := 2) rfl (ags_cons (ag_name (i := 1) (vs := [1, 5, 6]) (by decide) sc__law_b_lines.nd rfl (by first | exact Or.inl rfl | exact Or.inr rfl)) (ags_cons (ag_tup (m := 2) rfl (ags_cons (ag_name (i := 5) (vs := [1, 5, 6]) (by decide) sc__law_b_lines.nd rfl (by first | exact Or.inl rfl | exact Or.inr rfl)) (ags_cons (ag_name (i := 6) (vs := [1, 5, 6]) (by decide) sc__law_b_lines.nd rfl (by first | exact Or.inl rfl | exact Or.inr rfl)) ags_nil))) ags_nil))))
    (as_one (as_ret (ae_lst (aa_cons (ae_f c__law_b_lowest hr (by decide) (by rfl) (aa_cons (ae_var 5) (aa_cons (ae_tup (aa_cons (ae_op op_sub sr_sub ae_int (ae_var 1)) (aa_cons ae_int aa_nil))) aa_nil))) (aa_cons (ae_f c__law_b_lowest hr (by decide) (by rfl) (aa_cons (ae_op op_sub sr_sub ae_int (ae_var 5)) (aa_cons (ae_tup (aa_cons (ae_var 1) (aa_cons ae_int aa_nil))) aa_nil))) (aa_cons (ae_f c__law_b_lowest hr (by decide) (by rfl) (aa_cons (ae_var 6) (aa_cons (ae_tup (aa_cons ae_int (aa_cons (ae_op op_sub sr_sub ae_int (ae_var 1)) aa_nil))) aa_nil))) (aa_cons (ae_f c__law_b_lowest hr (by decide) (by rfl) (aa_cons (ae_op op_sub sr_sub ae_int (ae_var 6)) (aa_cons (ae_tup (aa_cons ae_int (aa_cons (ae_var 1) aa_nil))) aa_nil))) aa_nil)))))))) as_nil)
    (as_cons (as_if (at_cmp op_gt sr_gt (ae_callB call_len sn_len (by rfl) fx.b_len (by decide +kernel) (aa_cons (ae_var 0) aa_nil)) ae_int (nomark _)) (as_one (as_ret (ae_lc [("one", 13), ("other", 14)] (by rfl) rfl sc__law_b_lines.nd (ai_zip (by rfl) fx.b_zip (aa_cons (ae_var 0) (aa_cons (ae_op op_addA sr_add (ae_slice (ae_var 0) (ao_some ae_int) ao_none) (ae_slice (ae_var 0) ao_none (ao_some ae_int))) aa_nil))) (blkOk_by (own := [("one", 13), ("other", 14)]) (N := N__law_b_lines) (sc := defScope s__law_b_lines) (by decide +kernel)) (fun _ _ _ _ _ => (ag_tup (m := 2) rfl (ags_cons (ag_name (i := 13) (vs := [13, 14]) (by decide) sc__law_b_lines.nd rfl (by first | exact Or.inl rfl | exact Or.inr rfl)) (ags_cons (ag_name (i := 14) (vs := [13, 14]) (by decide) sc__law_b_lines.nd rfl (by first | exact Or.inl rfl | exact Or.inr rfl)) ags_nil)))) (fun _ _ _ _ _ => ats_nil) (fun _ _ _ _ _ => (ae_f c__law_b_through hr (by decide) (by rfl) (aa_cons (ae_var 13) (aa_cons (ae_var 14) aa_nil))))))) as_nil)
    (as_cons (as_asg (ae_var 0) (ag_tup (m := 2) rfl (ags_cons (ag_tup (m := 2) rfl (ags_cons (ag_name (i := 1) (vs := [1, 2, 5, 6, 7, 8]) (by decide) sc__law_b_lines.nd rfl (by first | exact Or.inl rfl | exact Or.inr rfl)) (ags_cons (ag_tup (m := 2) rfl (ags_cons (ag_name (i := 5) (vs := [1, 2, 5, 6, 7, 8]) (by decide) sc__law_b_lines.nd rfl (by first | exact Or.inl rfl | exact Or.inr rfl)) (ags_cons (ag_name (i := 6) (vs := [1, 2, 5, 6, 7, 8]) (by decide) sc__law_b_lines.nd rfl (by first | exact Or.inl rfl | exact Or.inr rfl)) ags_nil))) ags_nil))) (ags_cons (ag_tup (m := 2) rfl (ags_cons (ag_name (i := 2) (vs := [1, 2, 5, 6, 7, 8]) (by decide) sc__law_b_lines.nd rfl (by first | exact Or.inl rfl | exact Or.inr rfl)) (ags_cons (ag_tup (m := 2) rfl (ags_cons (ag_name (i := 7) (vs := [1, 2, 5, 6, 7, 8]) (by decide) sc__law_b_lines.nd rfl (by first | exact Or.inl rfl | exact Or.inr rfl)) (ags_cons (ag_name (i := 8) (vs := [1, 2, 5, 6, 7, 8]) (by decide) sc__law_b_lines.nd rfl (by first | exact Or.inl rfl | exact Or.inr rfl)) ags_nil))) ags_nil))) ags_nil))))
    (as_cons (as_par (i := 9) (j := 10) rfl sc__law_b_lines.nd rfl rfl (by decide) rfl rfl (aa_cons (ae_op op_sub sr_sub (ae_op op_mulW sr_mulW (ae_var 7) (ae_var 1)) (ae_op op_mulW sr_mulW (ae_var 5) (ae_var 2))) (aa_cons (ae_op op_sub sr_sub (ae_op op_mulW sr_mulW (ae_var 8) (ae_var 1)) (ae_op op_mulW sr_mulW (ae_var 6) (ae_var 2))) aa_nil)) (by rfl))
    (as_cons (as_par (i := 11) (j := 12) rfl sc__law_b_lines.nd rfl rfl (by decide) rfl rfl (aa_cons (ae_f c__law_b_through hr (by decide) (by rfl) (aa_cons (ae_ix (ae_var 0) ae_int) (aa_cons (ae_ix (ae_var 0) ae_int) aa_nil))) (aa_cons (ae_f c__law_b_through hr (by decide) (by rfl) (aa_cons (ae_ix (ae_var 0) ae_int) (aa_cons (ae_ix (ae_var 0) ae_int) aa_nil))) aa_nil)) (by rfl))
    (as_one (as_ret (ae_lst (aa_cons (ae_var 11) (aa_cons (ae_var 12) (aa_cons (ae_f c__law_b_lowest hr (by decide) (by rfl) (aa_cons (ae_op op_addA sr_add (ae_op op_mulW sr_mulW (ae_var 9) (ae_var 5)) (ae_op op_mulW sr_mulW (ae_var 10) (ae_var 6))) (aa_cons (ae_tup (aa_cons (ae_op op_sub sr_sub ae_int (ae_op op_mulW sr_mulW (ae_var 9) (ae_var 1))) (aa_cons (ae_op op_sub sr_sub ae_int (ae_op op_mulW sr_mulW (ae_var 10) (ae_var 1))) aa_nil))) aa_nil))) (aa_cons (ae_f c__law_b_lowest hr (by decide) (by rfl) (aa_cons (ae_op op_sub sr_sub (ae_op op_sub sr_sub ae_int (ae_op op_mulW sr_mulW (ae_var 9) (ae_var 7))) (ae_op op_mulW sr_mulW (ae_var 10) (ae_var 8))) (aa_cons (ae_tup (aa_cons (ae_op op_mulW sr_mulW (ae_var 9) (ae_var 2)) (aa_cons (ae_op op_mulW sr_mulW (ae_var 10) (ae_var 2)) aa_nil))) aa_nil))) aa_nil)))))))))))))
/-! ### law -/
abbrev s_law : Stmt := topS 28
abbrev N_law : List Str := ["script", "pen", "turn", "many", "points", "lap", "corners", "told", "due", "wide", "q", "point", "values", "row", "corner", "at"]
theorem sc_law : FnScope N_law ["script"] (defScope s_law) := ⟨rfl, rfl, rfl, by decide +kernel, rfl, by decide +kernel, by decide +kernel⟩
def as_law : AS := (aSeq (aFor (aRng1 (aC (.int 5))) (aGn 2) (aSeq (aSet 3 (aOp arAdd (aC (.int 1)) (aCall asp__law_draw (aCons (aVar 1) (aCons (aC (.int 3)) aNil)))))
  (aSeq (aAsg (aTup (aCons (aCB arMin2 (aCons (aVar 3) (aCons (aC (.int 2)) aNil))) (aCons (aCall asp__law_pick (aCons (aVar 1) (aCons (aLst (aCons (aC (.int 3)) (aCons (aC (.int 9)) (aCons (aC (.int 40)) (aCons (aOp arPow (aC (.int 10)) (aC (.int 9))) aNil))))) aNil))) aNil))) (aGt 2 (aGcons (aGn 3) (aGcons (aGn 9) aGnil))))
  (aSeq (aSetO 4 (aLst aNil))
  (aSeq (aFor (aRng1 (aOp arAdd (aC (.int 1)) (aCall asp__law_draw (aCons (aVar 1) (aCons (aC (.int 9)) aNil))))) (aGn 5) (aSeq (aSet 10 (aCall asp__law_pick (aCons (aVar 1) (aCons (aLst (aCons (aC (.int 1)) (aCons (aC (.int 1)) (aCons (aC (.int 2)) (aCons (aC (.int 7)) (aCons (aC (.int 30)) (aCons (aOp arAdd (aOp arPow (aC (.int 10)) (aC (.int 6))) (aC (.int 3))) aNil))))))) aNil))))
  (aApp 4 (aCall asp__law_p_point (aCons (aVar 10) (aCons (aLc (aRng1 (aVar 3)) (aGn 15) aYes (aOp arSub (aCall asp__law_draw (aCons (aVar 1) (aCons (aOp arAdd (aOp arMul (aOp arMul (aC (.int 2)) (aVar 9)) (aVar 10)) (aC (.int 1))) aNil))) (aOp arMul (aVar 9) (aVar 10))) [15]) aNil))))))
  (aFrz 4 (aSeq (aSet 6 (aIf (aTest (aOp (arEqD false) (aVar 3) (aC (.int 2)))) (aCall asp__law_p_around (aCons (aCall asp__law_p_sorted (aCons (aVar 4) aNil)) aNil)) (aCB arTuple (aCons (aOp arAdd (aLst (aCons (aOp arIx (aCall asp__law_p_sorted (aCons (aVar 4) aNil)) (aC (.int 0))) aNil)) (aSl (aSl (aCall asp__law_p_sorted (aCons (aVar 4) aNil)) (aPart (aC (.int 1))) aNoPart) (aPart (aUn arNeg (aC (.int 1)))) aNoPart)) aNil))))
  (aSeq (aSet 7 (aCall asp_borders (aCons (aVar 6) aNil)))
  (aSeq (aSet 8 (aCall asp__law_b_lines (aCons (aVar 6) aNil)))
  (aSeq (aIfS (aOr (aTest (aOp (arEqD true) (aLc (aIt (aVar 7)) (aGn 13) aYes (aCB arTuple (aCons (aVar 13) aNil)) [13]) (aVar 8))) (aTest (aOp (arEqD true) (aCallK0 asp_borders (fun l => l) (aCons (aCB arList (aCons (aVar 6) aNil)) aNil)) (aVar 7)))) (aRet (aC (.bl false))) aNext)
  (aSeq (aFor (aRng1 (aC (.int 8))) (aGn 5) (aSeq (aSet 11 (aIf (aTest (aOp arLt (aVar 5) (aC (.int 4)))) (aCall asp__law_p_mixture (aCons (aVar 1) (aCons (aVar 6) aNil))) (aCall asp__law_pick (aCons (aVar 1) (aCons (aOp arAdd (aVar 4) (aLst (aCons (aCall asp__law_p_point (aCons (aC (.int 5)) (aCons (aLc (aRng1 (aVar 3)) (aGn 15) aYes (aOp arSub (aCall asp__law_draw (aCons (aVar 1) (aCons (aOp arMul (aC (.int 20)) (aVar 9)) aNil))) (aOp arMul (aC (.int 10)) (aVar 9))) [15]) aNil))) aNil))) aNil)))))
  (aSeq (aSet 12 (aLc (aIt (aVar 8)) (aGn 13) aYes (aCall asp__law_p_value (aCons (aVar 13) (aCons (aVar 11) aNil))) [13]))
  (aIfS (aOr (aTest (aOp (arEqD true) (aCB arReprB (aCons (aCall asp_is_in (aCons (aVar 6) (aCons (aVar 11) aNil))) aNil)) (aCB arReprB (aCons (aOp arLe (aCB arMax (aCons (aVar 12) aNil)) (aC (.int 0))) aNil)))) (aTest (aOp (arEqD true) (aCB arReprB (aCons (aCallK0 asp_is_inner (fun l => l.reverse) (aCons (aVar 11) (aCons (aVar 6) aNil))) aNil)) (aCB arReprB (aCons (aOp arLt (aCB arMax (aCons (aVar 12) aNil)) (aC (.int 0))) aNil))))) (aRet (aC (.bl false))) aNext))))
  (aIfS (aOr (aTest (aOp (arEqD true) (aLc (aIt (aVar 4)) (aGn 11) (aNot (aTest (aCall asp_is_in (aCons (aVar 6) (aCons (aVar 11) aNil))))) (aVar 11) [11]) (aLst aNil))) (aTest (aOp (arEqD true) (aLc (aIt (aVar 6)) (aGn 14) (aTest (aCall asp_is_inner (aCons (aVar 6) (aCons (aVar 14) aNil)))) (aVar 14) [14]) (aLst aNil)))) (aRet (aC (.bl false))) aNext))))))))))))
  (aRet (aC (.bl true))))
theorem bd_law {P : Program} {w : World} {K : PySem.W.Frag} {mg : Str → Option Value} {base : Heap} (fx : Fx mg) (c__law_draw : Cal P w K mg base 1 "_law_draw" ["pen", "many"] asp__law_draw) (c__law_pick : Cal P w K mg base 2 "_law_pick" ["pen", "some"] asp__law_pick) (c__law_p_point : Cal P w K mg base 2 "_law_p_point" ["q", "numbers"] asp__law_p_point) (c__law_p_around : Cal P w K mg base 2 "_law_p_around" ["points"] asp__law_p_around) (c__law_p_sorted : Cal P w K mg base 2 "_law_p_sorted" ["points"] asp__law_p_sorted) (c_borders : Cal P w K mg base 3 "borders" ["corners"] asp_borders) (c__law_b_lines : Cal P w K mg base 4 "_law_b_lines" ["corners"] asp__law_b_lines) (ck_borders : CalK P w K mg base 3 "borders" ["corners"] ["corners"] gId asp_borders) (c__law_p_mixture : Cal P w K mg base 3 "_law_p_mixture" ["pen", "points"] asp__law_p_mixture) (c__law_p_value : Cal P w K mg base 1 "_law_p_value" ["plane", "point"] asp__law_p_value) (c_is_inner : Cal P w K mg base 4 "is_inner" ["corners", "point"] asp_is_inner) (ck_is_inner : CalK P w K mg base 4 "is_inner" ["corners", "point"] ["point", "corners"] gRev asp_is_inner) (c_is_in : Cal P w K mg base 4 "is_in" ["corners", "point"] asp_is_in) {f : Addr} (cdv : Value) (A : Around) (outer : List PySem.Env) (s : Shared) (H : Hp) (E : XK)
    (hr : Room 4 (A.deeper (envOfC "law" (defScope s_law) s.heap.objs.size f cdv))) : ASsx (cxOf CX0 P w K mg base N_law "law" (defScope s_law) f cdv A outer s H E).nox ((defBody s_law).drop 1) as_law :=
  (as_cons (as_for PassesOwn.never rfl (ai_range1 (by rfl) fx.b_range ae_int) (ag_name (i := 2) (vs := [2]) (by decide) sc_law.nd rfl (by first | exact Or.inl rfl | exact Or.inr rfl)) (as_cons (as_set (i := 3) sc_law.nd rfl (by first | exact Or.inl rfl | exact Or.inr rfl) (ae_op op_addA sr_add ae_int (ae_f c__law_draw hr (by decide) (by rfl) (aa_cons (ae_var 1) (aa_cons ae_int aa_nil)))))
    (as_cons (as_asg (ae_tup (aa_cons (ae_callB (call_min2 rfl) sn_min2 (by rfl) fx.b_min (by decide +kernel) (aa_cons (ae_var 3) (aa_cons ae_int aa_nil))) (aa_cons (ae_f c__law_pick hr (by decide) (by rfl) (aa_cons (ae_var 1) (aa_cons (ae_lst (aa_cons ae_int (aa_cons ae_int (aa_cons ae_int (aa_cons (ae_op op_pow sr_pow ae_int ae_int) aa_nil))))) aa_nil))) aa_nil))) (ag_tup (m := 2) rfl (ags_cons (ag_name (i := 3) (vs := [3, 9]) (by decide) sc_law.nd rfl (by first | exact Or.inl rfl | exact Or.inr rfl)) (ags_cons (ag_name (i := 9) (vs := [3, 9]) (by decide) sc_law.nd rfl (by first | exact Or.inl rfl | exact Or.inr rfl)) ags_nil))))
    (as_cons (as_setO (i := 4) sc_law.nd rfl (by first | exact Or.inl rfl | exact Or.inr rfl) (ae_lst aa_nil))
    (as_cons (as_for PassesOwn.never rfl (ai_range1 (by rfl) fx.b_range (ae_op op_addA sr_add ae_int (ae_f c__law_draw hr (by decide) (by rfl) (aa_cons (ae_var 1) (aa_cons ae_int aa_nil))))) (ag_name (i := 5) (vs := [5]) (by decide) sc_law.nd rfl (by first | exact Or.inl rfl | exact Or.inr rfl)) (as_cons (as_set (i := 10) sc_law.nd rfl (by first | exact Or.inl rfl | exact Or.inr rfl) (ae_f c__law_pick hr (by decide) (by rfl) (aa_cons (ae_var 1) (aa_cons (ae_lst (aa_cons ae_int (aa_cons ae_int (aa_cons ae_int (aa_cons ae_int (aa_cons ae_int (aa_cons (ae_op op_addA sr_add (ae_op op_pow sr_pow ae_int ae_int) ae_int) aa_nil))))))) aa_nil))))
    (as_one (as_app (i := 4) rfl (by first | exact Or.inl rfl | exact Or.inr (Or.inl rfl) | exact Or.inr (Or.inr rfl)) (ae_f c__law_p_point hr (by decide) (by rfl) (aa_cons (ae_var 10) (aa_cons (ae_lc [("at", 15)] (by rfl) rfl sc_law.nd (ai_range1 (by rfl) fx.b_range (ae_var 3)) (blkOk_by (own := [("at", 15)]) (N := N_law) (sc := defScope s_law) (by decide +kernel)) (fun _ _ _ _ _ => (ag_name (i := 15) (vs := [15]) (by decide) sc_law.nd rfl (by first | exact Or.inl rfl | exact Or.inr rfl))) (fun _ _ _ _ _ => ats_nil) (fun _ _ _ _ _ => (ae_op op_sub sr_sub (ae_f c__law_draw hr (by decide) (by rfl) (aa_cons (ae_var 1) (aa_cons (ae_op op_addA sr_add (ae_op op_mulW sr_mulW (ae_op op_mulW sr_mulW ae_int (ae_var 9)) (ae_var 10)) ae_int) aa_nil))) (ae_op op_mulW sr_mulW (ae_var 9) (ae_var 10))))) aa_nil)))))))
    (as_frz 4 (as_cons (as_set (i := 6) sc_law.nd rfl (by first | exact Or.inl rfl | exact Or.inr rfl) (ae_if (at_cmp (op_eqD hr.units) sr_EqD (ae_var 3) ae_int (nomark _)) (ae_f c__law_p_around hr (by decide) (by rfl) (aa_cons (ae_f c__law_p_sorted hr (by decide) (by rfl) (aa_cons (ae_var 4) aa_nil)) aa_nil)) (ae_callTy call_tuple_of sn_tuple (by rfl) fx.b_tuple (by decide +kernel) (aa_cons (ae_op op_addA sr_add (ae_lst (aa_cons (ae_ix (ae_f c__law_p_sorted hr (by decide) (by rfl) (aa_cons (ae_var 4) aa_nil)) ae_int) aa_nil)) (ae_slice (ae_slice (ae_f c__law_p_sorted hr (by decide) (by rfl) (aa_cons (ae_var 4) aa_nil)) (ao_some ae_int) ao_none) (ao_some (ae_neg ae_int)) ao_none)) aa_nil))))
    (as_cons (as_set (i := 7) sc_law.nd rfl (by first | exact Or.inl rfl | exact Or.inr rfl) (ae_f c_borders hr (by decide) (by rfl) (aa_cons (ae_var 6) aa_nil)))
    (as_cons (as_set (i := 8) sc_law.nd rfl (by first | exact Or.inl rfl | exact Or.inr rfl) (ae_f c__law_b_lines hr (by decide) (by rfl) (aa_cons (ae_var 6) aa_nil)))
    (as_cons (as_if (AW.at (aw_or (at_cmp (op_neD hr.units) sr_NeD (ae_lc [("row", 13)] (by rfl) rfl sc_law.nd (ai_seq (ae_var 7)) (blkOk_by (own := [("row", 13)]) (N := N_law) (sc := defScope s_law) (by decide +kernel)) (fun _ _ _ _ _ => (ag_name (i := 13) (vs := [13]) (by decide) sc_law.nd rfl (by first | exact Or.inl rfl | exact Or.inr rfl))) (fun _ _ _ _ _ => ats_nil) (fun _ _ _ _ _ => (ae_callTy call_tuple_of sn_tuple (by rfl) fx.b_tuple (by decide +kernel) (aa_cons (ae_var 13) aa_nil)))) (ae_var 8) (nomark _)) (aw_or1 (at_cmp (op_neD hr.units) sr_NeD (ae_fK ck_borders hr (by decide) (by rfl) (ak_cons (ae_callTy call_list_of sn_list (by rfl) fx.b_list (by decide +kernel) (aa_cons (ae_var 6) aa_nil)) ak_nil)) (ae_var 7) (nomark _))))) (as_one (as_ret ae_bl)) as_nil)
    (as_cons (as_for PassesOwn.never rfl (ai_range1 (by rfl) fx.b_range ae_int) (ag_name (i := 5) (vs := [5]) (by decide) sc_law.nd rfl (by first | exact Or.inl rfl | exact Or.inr rfl)) (as_cons (as_set (i := 11) sc_law.nd rfl (by first | exact Or.inl rfl | exact Or.inr rfl) (ae_if (at_cmp op_lt sr_lt (ae_var 5) ae_int (nomark _)) (ae_f c__law_p_mixture hr (by decide) (by rfl) (aa_cons (ae_var 1) (aa_cons (ae_var 6) aa_nil))) (ae_f c__law_pick hr (by decide) (by rfl) (aa_cons (ae_var 1) (aa_cons (ae_op op_addA sr_add (ae_var 4) (ae_lst (aa_cons (ae_f c__law_p_point hr (by decide) (by rfl) (aa_cons ae_int (aa_cons (ae_lc [("at", 15)] (by rfl) rfl sc_law.nd (ai_range1 (by rfl) fx.b_range (ae_var 3)) (blkOk_by (own := [("at", 15)]) (N := N_law) (sc := defScope s_law) (by decide +kernel)) (fun _ _ _ _ _ => (ag_name (i := 15) (vs := [15]) (by decide) sc_law.nd rfl (by first | exact Or.inl rfl | exact Or.inr rfl))) (fun _ _ _ _ _ => ats_nil) (fun _ _ _ _ _ => (ae_op op_sub sr_sub (ae_f c__law_draw hr (by decide) (by rfl) (aa_cons (ae_var 1) (aa_cons (ae_op op_mulW sr_mulW ae_int (ae_var 9)) aa_nil))) (ae_op op_mulW sr_mulW ae_int (ae_var 9))))) aa_nil))) aa_nil))) aa_nil)))))
    (as_cons (as_setLc [("row", 13)] (by rfl) (i := 12) rfl sc_law.nd rfl rfl (sw_true rfl rfl rfl (by decide +kernel)) (ai_seq (ae_var 8)) (blkOk_by (own := [("row", 13)]) (N := N_law) (sc := defScope s_law) (by decide +kernel)) (fun _ _ _ _ _ => (ag_name (i := 13) (vs := [13]) (by decide) sc_law.nd rfl (by first | exact Or.inl rfl | exact Or.inr rfl))) (fun _ _ _ _ _ => ats_nil) (fun _ _ _ _ _ => (ae_f c__law_p_value hr (by decide) (by rfl) (aa_cons (ae_var 13) (aa_cons (ae_var 11) aa_nil)))))
    (as_one (as_if (AW.at (aw_or (at_cmp (op_neD hr.units) sr_NeD (ae_callB cr_reprB sn_reprB (by rfl) fx.b_repr (by decide +kernel) (aa_cons (ae_f c_is_in hr (by decide) (by rfl) (aa_cons (ae_var 6) (aa_cons (ae_var 11) aa_nil))) aa_nil)) (ae_callB cr_reprB sn_reprB (by rfl) fx.b_repr (by decide +kernel) (aa_cons (ae_cmp op_le sr_le (ae_callB (cr_max rfl) sn_max (by rfl) fx.b_max (by decide +kernel) (aa_cons (ae_var 12) aa_nil)) ae_int (nomark _)) aa_nil)) (nomark _)) (aw_or1 (at_cmp (op_neD hr.units) sr_NeD (ae_callB cr_reprB sn_reprB (by rfl) fx.b_repr (by decide +kernel) (aa_cons (ae_fKr ck_is_inner hr (by decide) (by rfl) (ak_cons (ae_var 11) (ak_cons (ae_var 6) ak_nil))) aa_nil)) (ae_callB cr_reprB sn_reprB (by rfl) fx.b_repr (by decide +kernel) (aa_cons (ae_cmp op_lt sr_lt (ae_callB (cr_max rfl) sn_max (by rfl) fx.b_max (by decide +kernel) (aa_cons (ae_var 12) aa_nil)) ae_int (nomark _)) aa_nil)) (nomark _))))) (as_one (as_ret ae_bl)) as_nil)))))
    (as_one (as_if (AW.at (aw_or (at_cmp (op_neD hr.units) sr_NeD (ae_lc [("point", 11)] (by rfl) rfl sc_law.nd (ai_seq (ae_var 4)) (blkOk_by (own := [("point", 11)]) (N := N_law) (sc := defScope s_law) (by decide +kernel)) (fun _ _ _ _ _ => (ag_name (i := 11) (vs := [11]) (by decide) sc_law.nd rfl (by first | exact Or.inl rfl | exact Or.inr rfl))) (fun _ _ _ _ _ => (ats_one (at_not (at_val (ae_f c_is_in hr (by decide) (by rfl) (aa_cons (ae_var 6) (aa_cons (ae_var 11) aa_nil))))))) (fun _ _ _ _ _ => (ae_var 11))) (ae_lst aa_nil) (nomark _)) (aw_or1 (at_cmp (op_neD hr.units) sr_NeD (ae_lc [("corner", 14)] (by rfl) rfl sc_law.nd (ai_seq (ae_var 6)) (blkOk_by (own := [("corner", 14)]) (N := N_law) (sc := defScope s_law) (by decide +kernel)) (fun _ _ _ _ _ => (ag_name (i := 14) (vs := [14]) (by decide) sc_law.nd rfl (by first | exact Or.inl rfl | exact Or.inr rfl))) (fun _ _ _ _ _ => (ats_one (at_val (ae_f c_is_inner hr (by decide) (by rfl) (aa_cons (ae_var 6) (aa_cons (ae_var 14) aa_nil)))))) (fun _ _ _ _ _ => (ae_var 14))) (ae_lst aa_nil) (nomark _))))) (as_one (as_ret ae_bl)) as_nil)))))))))))))
    (as_one (as_ret ae_bl)))
end K58
set_option Elab.async false
set_option linter.all false
set_option maxRecDepth 100000
set_option maxHeartbeats 4000000
/-! K58P1: what the readings say, def by def: the program's own defs. -/
namespace K58
open PySem PySem.Spec PyProof.Rows L2 Ab
theorem lb_lit {k : Nat} {x : Int} (h : x.natAbs < 2 ^ k) : Lb k x := h
theorem lb_add {k : Nat} {x y : Int} (h : Lb k x) (h2 : Lb k y) : Lb (k + 1) (x + y) := h.add h2
theorem lb_sub {k : Nat} {x y : Int} (h : Lb k x) (h2 : Lb k y) : Lb (k + 1) (x - y) := h.sub h2
theorem lb_half {m : Nat} {x y : Int} (h : Lb (m / 2) x) (h2 : Lb (m / 2) y) : Lb m (x * y) := (h.mul h2).mono (by omega)
theorem lb_neg {k : Nat} {x : Int} (h : Lb k x) : Lb k (-x) := h.neg
theorem ble5 {n : Nat} (h : Nat.ble n 100000 = true) : n ≤ 100000 := Nat.le_of_ble_eq_true h
theorem br_tt {A B : Prop} (h : A) : br true A B := ⟨fun _ => h, fun h => nomatch h⟩
theorem br_ff {A B : Prop} (h : B) : br false A B := ⟨fun h => (nomatch h), fun _ => h⟩
theorem br_dec {p : Prop} [Decidable p] {A B : Prop} (h1 : p → A) (h2 : ¬ p → B) : br (decide p) A B := ⟨fun h => h1 (of_decide_eq_true h), fun h => h2 (of_decide_eq_false h)⟩
theorem br_beq {x y : Int} {A B : Prop} (h1 : x = y → A) (h2 : x ≠ y → B) : br (x == y) A B := ⟨fun h => h1 (eq_of_beq h), fun h => h2 (ne_of_beq_false h)⟩
local macro_rules | `(tactic| walk_at "sz") => `(tactic| repeat (first | (with_reducible exact Lb.mono (by assumption) (by decide)) | (with_reducible exact lb_lit (by decide +kernel)) | (with_reducible refine lb_sub ?_ ?_) | (with_reducible refine lb_add ?_ ?_) | (with_reducible refine lb_half ?_ ?_) | (with_reducible refine lb_neg ?_)))
local macro_rules | `(tactic| walk_at "go1") => `(tactic| ((conv => whnf); refine and2 ?x ?_; (case x => (first | exact rfl | exact ble5 rfl | (refine cmul (j := 5000) (k := 5000) ?m1 ?m2; (case m1 => walk_at "sz"); (case m2 => walk_at "sz"))))))
local macro_rules | `(tactic| walk_at "go") => `(tactic| repeat (walk_at "go1"))
local macro_rules | `(tactic| walk_at "fin") => `(tactic| ((conv => whnf); assumption))
theorem pb2 {k : Nat} {q a b : Int} (h : PB k (q, [a, b])) : Lb k q ∧ Lb k a ∧ Lb k b := ⟨h.1, h.2 a (by simp), h.2 b (by simp)⟩
theorem len2 {l : List Int} (h : l.length = 2) : ∃ a b, l = [a, b] := by
  match l, h with
  | [a, b], _ => exact ⟨a, b, rfl⟩
theorem len1 {l : List Int} (h : l.length = 1) : ∃ a, l = [a] := by
  match l, h with
  | [a], _ => exact ⟨a, rfl⟩
abbrev E (AQ : AV → Nat → Prop) : AEnds := { nx := fun _ n => AQ (.st .non) n, rt := AQ }
theorem plain_line_through (avs : List AV) (n : Nat) (AQ : AV → Nat → Prop) (h : asp_line_through avs n AQ) : as_line_through (E AQ) (startA 8 avs) n := by
  obtain ⟨⟨q1, l1⟩, ⟨q2, l2⟩, rfl, h1, h2, e1, e2, q⟩ := h
  obtain ⟨a, b, rfl⟩ := len2 e1
  obtain ⟨c, d, rfl⟩ := len2 e2
  obtain ⟨b1, b2, b3⟩ := pb2 h1
  obtain ⟨b4, b5, b6⟩ := pb2 h2
  walk_at "go"
  walk_at "fin"
theorem plain_stretch_ends (avs : List AV) (n : Nat) (AQ : AV → Nat → Prop) (h : asp_stretch_ends avs n AQ) : as_stretch_ends (E AQ) (startA 11 avs) n := by
  obtain ⟨⟨q1, l1⟩, ⟨q2, l2⟩, rfl, h1, h2, e1, e2, q⟩ := h
  obtain ⟨a, b, rfl⟩ := len2 e1
  obtain ⟨c, d, rfl⟩ := len2 e2
  obtain ⟨b1, b2, b3⟩ := pb2 h1
  obtain ⟨b4, b5, b6⟩ := pb2 h2
  walk_at "go"
  walk_at "fin"
theorem plain_point_borders (avs : List AV) (n : Nat) (AQ : AV → Nat → Prop) (h : asp_point_borders avs n AQ) : as_point_borders (E AQ) (startA 4 avs) n := by
  obtain ⟨⟨q1, l1⟩, rfl, e1, q⟩ := h
  obtain ⟨a, b, rfl⟩ := len2 e1
  walk_at "go"
  walk_at "fin"
theorem plain_value (avs : List AV) (n : Nat) (AQ : AV → Nat → Prop) (h : asp_value avs n AQ) : as_value (E AQ) (startA 4 avs) n := by
  obtain ⟨p, x, rfl, hp, hx, hl, q⟩ := h
  dsimp only [as_value, aRet, aOp, aCB, aCons, aNil]
  refine and2 (cmul hp.1 hx.1) ?_
  have hz : zipD (p.2.map D.int) (x.2.map D.int) = (p.2.zip x.2).map fun z => D.tup [.int z.1, .int z.2] := zipD_ints _ _
  have hle : (p.2.zip x.2).length ≤ 2 := by
    rw [List.length_zip]
    omega
  refine lc_run (zipD (p.2.map D.int) (x.2.map D.int)) ((p.2.zip x.2).map fun z => D.int (z.1 * z.2)) (fun R r => r) rfl ?_ ?_ ?_ ?_
  · rw [hz, List.length_map]
    omega
  · rw [hz, List.length_map, List.length_map]
  · intro i d e hd he k k2 hk
    rw [hz, List.getElem?_map] at hd
    rw [List.getElem?_map] at he
    cases hzi : (p.2.zip x.2)[i]? with
    | none =>
      rw [hzi] at hd
      cases hd
    | some z =>
      rw [hzi] at hd he
      cases hd
      cases he
      have hm := List.of_mem_zip (List.mem_of_getElem? hzi)
      refine and2 rfl ?_
      refine and2 rfl ?_
      refine br_tt ?_
      refine and2 (cmul (hp.2 _ hm.1) (hx.2 _ hm.2)) ?_
      exact hk _ rfl
  · have e : (p.2.zip x.2).map (fun z => D.int (z.1 * z.2)) = ((p.2.zip x.2).map fun z => z.1 * z.2).map D.int := by rw [List.map_map]; rfl
    rw [e]
    show (match intsD (((p.2.zip x.2).map fun z => z.1 * z.2).map D.int) with
      | some ns => _
      | none => False)
    rw [intsD_map]
    exact q
/-- a loop over data whose turns change one slot -/
theorem for_run {ai : AI} {g : AG} {t : AS} {A : AEnds} {ρ : Ab.Env} {n : Nat} (ds : List D) (I : Nat → Ab.Env → Prop) (hi : ∀ R : List D → Nat → Prop, R ds n → ai ρ n R) (h0 : I 0 ρ)
    (hs : ∀ i d ρ', ds[i]? = some d → I i ρ' → g d ρ' fun ρ2 => t { A with nx := fun ρ3 m => m = n ∧ I (i + 1) ρ3, ct := fun ρ3 m => m = n ∧ I (i + 1) ρ3, bk := A.nx } ρ2 n) (hd : ∀ ρ', I ds.length ρ' → A.nx ρ' n) : aFor ai g t A ρ n := by
  refine hi _ ⟨fun i ρ m => m = n ∧ I i ρ, ⟨rfl, h0⟩, ?_, ?_⟩
  · rintro i d ρ' m hdi ⟨rfl, hI⟩
    exact hs i d ρ' hdi hI
  · rintro ρ' m ⟨rfl, hI⟩
    exact hd ρ' hI
theorem plain_common (avs : List AV) (n : Nat) (AQ : AV → Nat → Prop) (h : asp_common avs n AQ) : as_common (E AQ) (startA 3 avs) n := by
  obtain ⟨ns, rfl, q⟩ := h
  dsimp only [as_common, aSeq, aSet, aC]
  refine for_run (ns.map D.int) (fun i ρ => ∃ s, ρ = [.dat (.lst (ns.map D.int)), .dat (.int (gcdN (ns.take i) : Int)), s]) (fun R r => r) ⟨.un, rfl⟩ ?_ ?_
  · rintro i d ρ' hd ⟨s, rfl⟩
    rw [List.getElem?_map] at hd
    cases hi : ns[i]? with
    | none =>
      rw [hi] at hd
      cases hd
    | some x =>
      rw [hi] at hd
      cases hd
      refine ⟨rfl, .dat (.int x), ?_⟩
      have e : gcdN (ns.take (i + 1)) = Nat.gcd (gcdN (ns.take i)) x.natAbs := by
        unfold gcdN
        rw [List.take_add_one, hi, List.foldl_append]
        rfl
      rw [e]
      rfl
  · rintro ρ' ⟨s, rfl⟩
    have e : (ns.map D.int).length = ns.length := List.length_map ..
    have e2 : ns.take (ns.map D.int).length = ns := by rw [e, List.take_length]
    rw [e2]
    exact q
theorem gcdN_eq (ns : List Int) (b : Int) : gcdN (b :: ns) = ns.foldl (fun g x => Nat.gcd g x.natAbs) b.natAbs := by
  show ns.foldl _ (Nat.gcd 0 b.natAbs) = _
  rw [Nat.gcd_zero_left]
theorem foldl_gcd_le : ∀ (ns : List Int) (g : Nat), 0 < g → ns.foldl (fun g x => Nat.gcd g x.natAbs) g ≤ g
  | [], g, _ => Nat.le_refl g
  | x :: ns, g, hg => by
    have h1 : Nat.gcd g x.natAbs ≤ g := Nat.gcd_le_left _ hg
    have h2 : 0 < Nat.gcd g x.natAbs := Nat.gcd_pos_of_pos_left _ hg
    exact Nat.le_trans (foldl_gcd_le ns _ h2) h1
theorem foldl_gcd_dvd : ∀ (ns : List Int) (g : Nat), ns.foldl (fun g x => Nat.gcd g x.natAbs) g ∣ g ∧ ∀ x ∈ ns, ns.foldl (fun g x => Nat.gcd g x.natAbs) g ∣ x.natAbs
  | [], g => ⟨Nat.dvd_refl g, fun _ h => by simp at h⟩
  | y :: ns, g => by
    obtain ⟨h1, h2⟩ := foldl_gcd_dvd ns (Nat.gcd g y.natAbs)
    refine ⟨Nat.dvd_trans h1 (Nat.gcd_dvd_left _ _), fun x hx => ?_⟩
    rcases List.mem_cons.mp hx with rfl | hx
    · exact Nat.dvd_trans h1 (Nat.gcd_dvd_right _ _)
    · exact h2 x hx
theorem gcdN_dvd {ns : List Int} {x : Int} (h : x ∈ ns) : gcdN ns ∣ x.natAbs := (foldl_gcd_dvd ns 0).2 x h
theorem gcdN_lb {ns : List Int} {k : Nat} (h : ∀ x ∈ ns, Lb k x) (hp : 0 < gcdN ns) : Lb k (gcdN ns : Int) := by
  by_cases hz : ∀ x ∈ ns, x = 0
  · exfalso
    have : ∀ (l : List Int), (∀ x ∈ l, x = 0) → l.foldl (fun g x => Nat.gcd g x.natAbs) 0 = 0 := by
      intro l
      induction l with
      | nil => intro _; rfl
      | cons y l ih =>
        intro hl
        have hy : y = 0 := hl y (by simp)
        subst hy
        exact ih fun x hx => hl x (by simp [hx])
    have z := this ns hz
    unfold gcdN at hp
    omega
  · have : ∃ x ∈ ns, x ≠ 0 := Classical.byContradiction fun hc => hz fun x hx => Classical.byContradiction fun hn => hc ⟨x, hx, hn⟩
    obtain ⟨x, hx, hn⟩ := this
    have h1 := h x hx
    have h2 : gcdN ns ≤ x.natAbs := Nat.le_of_dvd (by omega) (gcdN_dvd hx)
    unfold Lb at *
    omega
end K58
set_option Elab.async false
set_option linter.all false
set_option maxRecDepth 100000
set_option maxHeartbeats 4000000
/-! K58P2: what the readings say: in_lowest, ends_of, borders, is_in, is_inner. -/
namespace K58
open PySem PySem.Spec PyProof.Rows L2 Ab
local macro_rules | `(tactic| walk_at "sz") => `(tactic| repeat (first | (with_reducible exact Lb.mono (by assumption) (by decide)) | (with_reducible exact lb_lit (by decide +kernel)) | (with_reducible refine lb_sub ?_ ?_) | (with_reducible refine lb_add ?_ ?_) | (with_reducible refine lb_half ?_ ?_) | (with_reducible refine lb_neg ?_)))
local macro_rules | `(tactic| walk_at "go1") => `(tactic| ((conv => whnf); refine and2 ?x ?_; (case x => (first | exact rfl | exact ble5 rfl | (refine cmul (j := 5000) (k := 5000) ?m1 ?m2; (case m1 => walk_at "sz"); (case m2 => walk_at "sz"))))))
local macro_rules | `(tactic| walk_at "go") => `(tactic| repeat (walk_at "go1"))
local macro_rules | `(tactic| walk_at "fin") => `(tactic| ((conv => whnf); assumption))
local macro_rules | `(tactic| walk_at "wh") => `(tactic| (conv => whnf))
theorem stAll_st : ∀ (ds : List D) (r : List AV), stAll (ds.map AV.st ++ r) = (stAll r).map (ds ++ ·)
  | [], r => by
    show stAll r = (stAll r).map fun l => l
    rw [Option.map_id']
  | d :: ds, r => by
    show (stAll (ds.map AV.st ++ r)).map (d :: ·) = _
    rw [stAll_st ds r, Option.map_map]
    rfl
theorem pl_two {p : Pt} {k : Nat} (h : PB k p) : ∀ x ∈ p.1 :: p.2, Lb k x := fun x hx => by
  rcases List.mem_cons.mp hx with rfl | hx
  · exact h.1
  · exact h.2 x hx
theorem plain_in_lowest (avs : List AV) (n : Nat) (AQ : AV → Nat → Prop) (h : asp_in_lowest avs n AQ) : as_in_lowest (E AQ) (startA 4 avs) n := by
  obtain ⟨⟨b, cs⟩, rfl, hp, hl, hg, q⟩ := h
  have key : ∀ R : AV → Nat → Prop, R (.fr (D.int b :: cs.map D.int)) n → aLst (aCons (aVar 0) (aStar (aVar 1) aNil)) [.dat (.int b), .dat (tupI cs), .un, .un] n R := fun R r => by
    show (match stAll (AV.st (.int b) :: ((cs.map D.int).map AV.st ++ [])) with
      | some ds => ds.length ≤ 100000 ∧ R (.fr ds) n
      | none => False)
    have e : stAll (AV.st (.int b) :: ((cs.map D.int).map AV.st ++ [])) = some (D.int b :: cs.map D.int) := by
      show (stAll ((cs.map D.int).map AV.st ++ [])).map (D.int b :: ·) = _
      rw [stAll_st]
      show some (D.int b :: (cs.map D.int ++ [])) = _
      rw [List.append_nil]
    rw [e]
    refine ⟨?_, r⟩
    have : cs.length ≤ 2 := hl
    simp
    omega
  dsimp only [as_in_lowest, aSeq, aSet, aCall]
  refine key _ ?_
  walk_at "wh"
  refine ⟨b :: cs, rfl, ?_⟩
  have hgl := gcdN_lb (pl_two hp) hg
  have hg' : 0 < gcdN (b :: cs) := hg
  have hgp : (0 : Int) < (gcdN (b :: cs) : Int) := by omega
  dsimp only [aRet, aTup, aCons, aOp, aCB]
  refine and2 (cdiv hgp hgl) ?_
  refine lc_run (cs.map D.int) (cs.map fun x => D.int (x / (gcdN (b :: cs) : Int))) (fun R r => r) rfl ?_ ?_ ?_ ?_
  · have : cs.length ≤ 2 := hl
    simp
    omega
  · simp
  · intro i d e hd he k k2 hk
    rw [List.getElem?_map] at hd he
    cases hi : cs[i]? with
    | none =>
      rw [hi] at hd
      cases hd
    | some x =>
      rw [hi] at hd he
      cases hd
      cases he
      refine br_tt ?_
      refine and2 (cdiv hgp hgl) ?_
      exact hk _ rfl
  · refine and2 (ble5 rfl) ?_
    have e : (cs.map fun x => D.int (x / (gcdN (b :: cs) : Int))) = (cs.map fun x => x / (gcdN (b :: cs) : Int)).map D.int := by rw [List.map_map]; rfl
    walk_at "wh"
    have q' : AQ (.st (.tup [.int (b / (gcdN (b :: cs) : Int)), .tup ((cs.map fun x => x / (gcdN (b :: cs) : Int)).map D.int)])) n := q
    rw [← e] at q'
    exact q'
theorem rv_var {i : Nat} {ρ : Ab.Env} {n : Nat} {Q : AV → Nat → Prop} {d : D} (h : ρ[i]? = some (.dat d)) (k : Q (.st d) n) : aVar i ρ n Q := by
  unfold aVar
  rw [h]
  exact k
theorem rv_c {ρ : Ab.Env} {n : Nat} {Q : AV → Nat → Prop} {d : D} (k : Q (.st d) n) : aC d ρ n Q := k
theorem rv_neg {ρ : Ab.Env} {n : Nat} {Q : AV → Nat → Prop} {i : Int} (k : Q (.st (.int (-i))) n) : aUn arNeg (aC (.int i)) ρ n Q := k
theorem ix_seqP {b : Bool} {l : List Pt} {i : Int} {p : Pt} (h : atI l i = some p) : ∀ (Q : AV → Nat → Prop) (n : Nat), Q (.st (ptD p)) n → arIx (.st (seqP b l)) (.st (.int i)) n Q := fun Q n q => by
  have e : atI (l.map ptD) i = some (ptD p) := by
    unfold atI at h ⊢
    rw [List.length_map]
    cases hj : ixN l.length i with
    | none => rw [hj] at h; cases h
    | some j =>
      rw [hj] at h
      show (l.map ptD)[j]? = _
      rw [List.getElem?_map, show l[j]? = some p from h]
      rfl
  cases b with
  | true =>
    show (match atI (l.map ptD) i with
      | some d => Q (.st d) n
      | none => False)
    rw [e]
    exact q
  | false =>
    show (match atI (l.map ptD) i with
      | some d => Q (.st d) n
      | none => False)
    rw [e]
    exact q
theorem atI_0 {α : Type} (a : α) (r : List α) : atI (a :: r) 0 = some a := atI_nat (j := 0) rfl
theorem atI_1 {α : Type} (a b : α) (r : List α) : atI (a :: b :: r) 1 = some b := atI_nat (j := 1) rfl
theorem atI_m1 {α : Type} (a : α) (r : List α) : atI (a :: r) (-1) = some ((a :: r).getLastD a) := by
  have hz : a :: r = (a :: r).dropLast ++ [(a :: r).getLast (List.cons_ne_nil _ _)] := (List.dropLast_concat_getLast (List.cons_ne_nil a r)).symm
  have e : (a :: r).getLastD a = (a :: r).getLast (List.cons_ne_nil _ _) := by
    rw [List.getLastD_eq_getLast?, List.getLast?_eq_getLast (List.cons_ne_nil a r)]
    rfl
  rw [e]
  have := atI_last (a :: r).dropLast ((a :: r).getLast (List.cons_ne_nil _ _))
  rw [← hz] at this
  exact this
theorem last_mem (a : Pt) (r : List Pt) : (a :: r).getLastD a ∈ a :: r := by
  have e : (a :: r).getLastD a = (a :: r).getLast (List.cons_ne_nil _ _) := by
    rw [List.getLastD_eq_getLast?, List.getLast?_eq_getLast (List.cons_ne_nil a r)]
    rfl
  rw [e]
  exact List.getLast_mem _
theorem plain_ends_of (avs : List AV) (n : Nat) (AQ : AV → Nat → Prop) (h : asp_ends_of avs n AQ) : as_ends_of (E AQ) (startA 5 avs) n := by
  obtain ⟨b, a, r, rfl, hl, q⟩ := h
  dsimp only [as_ends_of, aSeq, aAsg, aTup, aCons, aOp]
  refine rv_var rfl (rv_c ?_)
  refine ix_seqP (atI_0 a r) _ _ ?_
  refine rv_var rfl (rv_neg ?_)
  refine ix_seqP (atI_m1 a r) _ _ ?_
  generalize hz : (a :: r).getLastD a = z at q ⊢
  have hzl : z.2.length = 1 := by
    rw [← hz]
    exact hl _ (last_mem a r)
  obtain ⟨q1, l1⟩ := a
  obtain ⟨q2, l2⟩ := z
  obtain ⟨x, rfl⟩ := len1 (hl _ (List.mem_cons_self ..))
  obtain ⟨y, rfl⟩ := len1 hzl
  walk_at "go"
  walk_at "fin"
section
variable {ρ : Ab.Env} {n : Nat} {A : AEnds} {Q : AV → Nat → Prop} {QL : List AV → Nat → Prop} {QB : Bool → Nat → Prop} {t u : AS} {c : AT} {aa ab : AE} {as' : AA} {ar : AR2} {arn : ARn}
theorem rs_seq (h : t { A with nx := u A } ρ n) : aSeq t u A ρ n := h
theorem rs_if (h : c ρ n fun b n1 => br b (t A ρ n1) (u A ρ n1)) : aIfS c t u A ρ n := h
theorem rs_test (h : aa ρ n fun x n1 => match x.d with
  | .bl b => QB b n1
  | _ => False) : aTest aa ρ n QB := h
theorem rs_op (h : aa ρ n fun x n1 => ab ρ n1 fun y n2 => ar x y n2 Q) : aOp ar aa ab ρ n Q := h
theorem rs_cb (h : as' ρ n fun avs n1 => arn avs n1 Q) : aCB arn as' ρ n Q := h
theorem rs_cons (h : aa ρ n fun x n1 => as' ρ n1 fun xs n2 => QL (x :: xs) n2) : aCons aa as' ρ n QL := h
theorem rs_nil (h : QL [] n) : aNil ρ n QL := h
theorem rs_ret (h : aa ρ n fun av n1 => match av with
  | .st d => A.rt (.st d) n1
  | .fr ds => A.rt (.fr ds) n1
  | .ow ds => A.rt (.fr ds) n1
  | .pn => False) : aRet aa A ρ n := h
theorem rs_set {i : Nat} (h : aa ρ n fun av n1 => match av with
  | .st d => A.nx (ρ.set i (.dat d)) n1
  | .fr ds => A.nx (ρ.set i (.dat (.lst ds))) n1
  | .pn => A.nx (ρ.set i .pen) n1
  | .ow _ => False) : aSet i aa A ρ n := h
theorem rs_call {asp : ASp} (h : as' ρ n fun avs n1 => match argAll avs with
  | some bs => asp bs n1 Q
  | none => False) : aCall asp as' ρ n Q := h
theorem rs_asg {g : AG} (h : aa ρ n fun av n1 => match stOne av with
  | some d => g d ρ fun ρ' => A.nx ρ' n1
  | none => False) : aAsg aa g A ρ n := h
theorem rs_tup (h : as' ρ n fun xs n1 => match stAll xs with
  | some ds => ds.length ≤ 100000 ∧ Q (.st (.tup ds)) n1
  | none => False) : aTup as' ρ n Q := h
theorem rs_lst (h : as' ρ n fun xs n1 => match stAll xs with
  | some ds => ds.length ≤ 100000 ∧ Q (.fr ds) n1
  | none => False) : aLst as' ρ n Q := h
theorem ix_pt1 {p : Pt} (k : Q (.st (tupI p.2)) n) : arIx (.st (ptD p)) (.st (.int 1)) n Q := k
theorem ix_pt0 {p : Pt} (k : Q (.st (.int p.1)) n) : arIx (.st (ptD p)) (.st (.int 0)) n Q := k
theorem len_tupI {ns : List Int} (k : Q (.st (.int ns.length)) n) : arLen [.st (tupI ns)] n Q := by
  show Q (.st (.int ((ns.map D.int).length : Nat))) n
  rw [List.length_map]
  exact k
theorem len_seqP {b : Bool} {l : List Pt} (k : Q (.st (.int l.length)) n) : arLen [.st (seqP b l)] n Q := by
  cases b with
  | true =>
    show Q (.st (.int ((l.map ptD).length : Nat))) n
    rw [List.length_map]
    exact k
  | false =>
    show Q (.st (.int ((l.map ptD).length : Nat))) n
    rw [List.length_map]
    exact k
theorem rs_subI {i j : Int} (k : Q (.st (.int (i - j))) n) : arSub (.st (.int i)) (.st (.int j)) n Q := k
theorem eq_int {i j : Int} (k : Q (.st (.bl (i == j))) n) : arEqD false (.st (.int i)) (.st (.int j)) n Q := ⟨rfl, rfl, rfl, rfl, k⟩
end
theorem pb_mk2 {k : Nat} {q a b : Int} (h : Lb k q) (h1 : Lb k a) (h2 : Lb k b) : PB k (q, [a, b]) := ⟨h, fun x hx => by
  rcases List.mem_cons.mp hx with rfl | hx
  · exact h1
  · rw [List.mem_singleton.mp hx]
    exact h2⟩
theorem pb_mk1 {k : Nat} {q a : Int} (h : Lb k q) (h1 : Lb k a) : PB k (q, [a]) := ⟨h, fun x hx => by
  rw [List.mem_singleton.mp hx]
  exact h1⟩
theorem lineP_pb {p r : Pt} (hp : PB 60 p) (hr : PB 60 r) (h1 : p.2.length = 2) (h2 : r.2.length = 2) : PB 1400 (lineP p r) ∧ (lineP p r).2.length = 2 := by
  obtain ⟨q1, l1⟩ := p
  obtain ⟨q2, l2⟩ := r
  obtain ⟨a, b, rfl⟩ := len2 h1
  obtain ⟨c, d, rfl⟩ := len2 h2
  obtain ⟨b1, b2, b3⟩ := pb2 hp
  obtain ⟨b4, b5, b6⟩ := pb2 hr
  refine ⟨pb_mk2 ?_ ?_ ?_, rfl⟩
  · show Lb 1400 (0 - (a * d - b * c))
    walk_at "sz"
  · show Lb 1400 (q1 * d - b * q2)
    walk_at "sz"
  · show Lb 1400 (0 - (q1 * c - a * q2))
    walk_at "sz"
theorem strE_pb {p r : Pt} (hp : PB 60 p) (hr : PB 60 r) (h1 : p.2.length = 2) (h2 : r.2.length = 2) : ∀ x ∈ strE p r, PB 1400 x ∧ x.2.length ≤ 2 := by
  obtain ⟨q1, l1⟩ := p
  obtain ⟨q2, l2⟩ := r
  obtain ⟨a, b, rfl⟩ := len2 h1
  obtain ⟨c, d, rfl⟩ := len2 h2
  obtain ⟨b1, b2, b3⟩ := pb2 hp
  obtain ⟨b4, b5, b6⟩ := pb2 hr
  intro x hx
  rcases List.mem_cons.mp hx with rfl | hx
  · refine ⟨pb_mk2 ?_ ?_ ?_, Nat.le_refl 2⟩
    · show Lb 1400 ((c * q1 - a * q2) * a + (d * q1 - b * q2) * b)
      walk_at "sz"
    · show Lb 1400 (0 - (c * q1 - a * q2) * q1)
      walk_at "sz"
    · show Lb 1400 (0 - (d * q1 - b * q2) * q1)
      walk_at "sz"
  · rw [List.mem_singleton.mp hx]
    refine ⟨pb_mk2 ?_ ?_ ?_, Nat.le_refl 2⟩
    · show Lb 1400 (0 - ((c * q1 - a * q2) * c + (d * q1 - b * q2) * d))
      walk_at "sz"
    · show Lb 1400 ((c * q1 - a * q2) * q2)
      walk_at "sz"
    · show Lb 1400 ((d * q1 - b * q2) * q2)
      walk_at "sz"
theorem negP_pb {k : Nat} {p : Pt} (hp : PB k p) : PB (k + 1) (negP p) ∧ (negP p).2.length = p.2.length := by
  refine ⟨⟨(lb_lit (k := k) (x := 0) (Nat.two_pow_pos k)).sub hp.1, fun x hx => ?_⟩, List.length_map ..⟩
  obtain ⟨c, hc, rfl⟩ := List.mem_map.mp hx
  exact (lb_lit (k := k) (x := 0) (Nat.two_pow_pos k)).sub (hp.2 c hc)
theorem ptB_pb {p : Pt} (hp : PB 60 p) (h1 : p.2.length = 2) : ∀ x ∈ ptB p, PB 1400 x ∧ x.2.length ≤ 2 := by
  obtain ⟨q1, l1⟩ := p
  obtain ⟨a, b, rfl⟩ := len2 h1
  obtain ⟨b1, b2, b3⟩ := pb2 hp
  intro x hx
  have : x = (a, [0 - q1, 0]) ∨ x = (0 - a, [q1, 0]) ∨ x = (b, [0, 0 - q1]) ∨ x = (0 - b, [0, q1]) := by simpa [ptB, x0, x1] using hx
  rcases this with rfl | rfl | rfl | rfl <;> (refine ⟨pb_mk2 ?_ ?_ ?_, Nat.le_refl 2⟩ <;> walk_at "sz")
theorem endsP_pb {a z : Pt} (ha : PB 60 a) (hz : PB 60 z) (h1 : a.2.length = 1) (h2 : z.2.length = 1) : ∀ x ∈ endsP a z, PB 1400 x ∧ x.2.length ≤ 2 := by
  obtain ⟨q1, l1⟩ := a
  obtain ⟨q2, l2⟩ := z
  obtain ⟨a, rfl⟩ := len1 h1
  obtain ⟨c, rfl⟩ := len1 h2
  have b1 : Lb 60 q1 := ha.1
  have b2 : Lb 60 q2 := hz.1
  have b3 : Lb 60 a := ha.2 a (by simp)
  have b4 : Lb 60 c := hz.2 c (by simp)
  intro x hx
  have : x = (a, [0 - q1]) ∨ x = (0 - c, [q2]) := by simpa [endsP, x0] using hx
  rcases this with rfl | rfl <;> (refine ⟨pb_mk1 ?_ ?_, Nat.le_of_ble_eq_true rfl⟩ <;> walk_at "sz")
theorem rot_mem {l : List Pt} {p : Pt} (h : p ∈ rot l) : p ∈ l := by
  unfold rot at h
  rcases List.mem_append.mp h with h | h
  · exact List.mem_of_mem_drop h
  · exact List.mem_of_mem_take h
theorem found_pb14 {l : List Pt} (hp : ∀ p ∈ l, PB 60 p ∧ 0 < p.1) (hd : (∀ p ∈ l, p.2.length = 1) ∨ ∀ p ∈ l, p.2.length = 2) : ∀ p ∈ found l, PB 1400 p ∧ p.2.length ≤ 2 := by
  intro p h
  unfold found at h
  split at h
  · simp at h
  · next a r =>
    have ha := hp a (by simp)
    split at h
    · next h1 =>
      have hz := hp _ (last_mem a r)
      refine endsP_pb ha.1 hz.1 h1 ?_ p h
      rcases hd with hd | hd
      · exact hd _ (last_mem a r)
      · have := hd a (by simp)
        omega
    · next h1 =>
      have h2 : ∀ p ∈ a :: r, p.2.length = 2 := by
        rcases hd with hd | hd
        · exact absurd (hd a (by simp)) h1
        · exact hd
      split at h
      · exact ptB_pb ha.1 (h2 a (by simp)) p h
      · next c =>
        have hc := hp c (by simp)
        have hl := lineP_pb ha.1 hc.1 (h2 a (by simp)) (h2 c (by simp))
        have hl60 : PB 1399 (lineP a c) := by
          obtain ⟨q1, l1⟩ := a
          obtain ⟨q2, l2⟩ := c
          obtain ⟨a, b, rfl⟩ := len2 (h2 (q1, l1) (by simp))
          obtain ⟨c, d, rfl⟩ := len2 (h2 (q2, l2) (by simp))
          obtain ⟨b1, b2, b3⟩ := pb2 ha.1
          obtain ⟨b4, b5, b6⟩ := pb2 hc.1
          refine pb_mk2 ?_ ?_ ?_
          · show Lb 1399 (0 - (a * d - b * c))
            walk_at "sz"
          · show Lb 1399 (q1 * d - b * q2)
            walk_at "sz"
          · show Lb 1399 (0 - (q1 * c - a * q2))
            walk_at "sz"
        rcases List.mem_append.mp h with h | h
        · have : p = lineP a c ∨ p = negP (lineP a c) := by simpa using h
          rcases this with rfl | rfl
          · exact ⟨hl.1, by omega⟩
          · obtain ⟨g1, g2⟩ := negP_pb hl60
            exact ⟨g1, by omega⟩
        · exact strE_pb ha.1 hc.1 (h2 a (by simp)) (h2 c (by simp)) p h
      · obtain ⟨z, hz, rfl⟩ := List.mem_map.mp h
        have m := List.of_mem_zip hz
        have m2 := rot_mem m.2
        obtain ⟨g1, g2⟩ := lineP_pb (hp _ m.1).1 (hp _ m2).1 (h2 _ m.1) (h2 _ m2)
        exact ⟨g1, by omega⟩
theorem PB.mono {j k : Nat} {p : Pt} (h : PB j p) (hjk : j ≤ k) : PB k p := ⟨h.1.mono hjk, fun x hx => (h.2 x hx).mono hjk⟩
theorem found_pb {l : List Pt} (hp : ∀ p ∈ l, PB 60 p ∧ 0 < p.1) (hd : (∀ p ∈ l, p.2.length = 1) ∨ ∀ p ∈ l, p.2.length = 2) : ∀ p ∈ found l, PB 2000 p ∧ p.2.length ≤ 2 := fun p h => ⟨(found_pb14 hp hd p h).1.mono (by decide), (found_pb14 hp hd p h).2⟩
theorem found_len {l : List Pt} (hl : l.length ≤ 1000) : (found l).length ≤ 2000 := by
  unfold found
  split
  · exact Nat.zero_le _
  · next a r =>
    split
    · exact Nat.le_of_ble_eq_true rfl
    · split
      · exact Nat.le_of_ble_eq_true rfl
      · exact Nat.le_of_ble_eq_true rfl
      · rw [List.length_map, List.length_zip]
        omega
theorem sl_from (b : Bool) {l : List Pt} {n : Nat} (K : AV → Nat → Prop) (k : ∀ av, (av = .fr (Ab.cutD (l.map ptD) (some 1) none) ∨ av = .st (.tup (Ab.cutD (l.map ptD) (some 1) none))) → K av n) :
    aSl (aVar 0) (aPart (aC (.int 1))) aNoPart (startA 8 [.st (seqP b l)]) n K := by
  cases b with
  | true => exact k _ (.inl rfl)
  | false => exact k _ (.inr rfl)
/-- what stands at a place of corners -/
theorem eqv_int (i j : Int) : PyData.eqv (D.int i).py (D.int j).py = (i == j) := rfl
theorem plain_borders (avs : List AV) (n : Nat) (AQ : AV → Nat → Prop) (h : asp_borders avs n AQ) : as_borders (E AQ) (startA 8 avs) n := by
  obtain ⟨b, l, rfl, hg, q⟩ := h
  obtain ⟨hne, hlen, hp, hd, hpos⟩ := hg
  obtain ⟨a, r, rfl⟩ : ∃ a r, l = a :: r := by
    cases l with
    | nil => exact absurd rfl hne
    | cons a r => exact ⟨a, r, rfl⟩
  -- the end: each one in lowest terms
  have fin : ∀ (b' : Bool) (s2 s3 s4 s5 s6 s7 : Sl), (∀ p ∈ found (a :: r), PB 2000 p ∧ p.2.length ≤ 2) → (found (a :: r)).length ≤ 2000 → (match s3, s4 with
      | .own _, _ => False
      | _, .own _ => False
      | _, _ => True) →
      aRet (aLc (aIt (aVar 1)) (aGt 2 (aGcons (aGn 3) (aGcons (aGn 4) aGnil))) aYes (aCall asp_in_lowest (aCons (aVar 3) (aCons (aVar 4) aNil))) [3, 4]) (E AQ) [.dat (seqP b (a :: r)), .dat (.lst ((found (a :: r)).map ptD)), s2, s3, s4, s5, s6, s7] n := by
    intro b' s2 s3 s4 s5 s6 s7 hf hfl hs
    dsimp only [aRet]
    refine lc_run ((found (a :: r)).map ptD) ((found (a :: r)).map fun p => ptD (low p)) (fun R r => r) ?_ ?_ ?_ ?_ ?_
    · cases s3 <;> cases s4 <;> first | rfl | exact hs.elim
    · rw [List.length_map]
      omega
    · rw [List.length_map, List.length_map]
    · intro i d e hd he k k2 hk
      rw [List.getElem?_map] at hd he
      cases hi : (found (a :: r))[i]? with
      | none =>
        rw [hi] at hd
        cases hd
      | some p =>
        rw [hi] at hd he
        cases hd
        cases he
        have hm := List.mem_of_getElem? hi
        refine and2 rfl ?_
        refine and2 rfl ?_
        refine br_tt ?_
        walk_at "wh"
        exact ⟨p, rfl, (hf p hm).1, (hf p hm).2, hpos p hm, hk _ rfl⟩
    · walk_at "wh"
      have e : ((found (a :: r)).map fun p => ptD (low p)) = (brd (a :: r)).map ptD := by
        unfold brd
        rw [List.map_map]
        rfl
      rw [e]
      exact q
  have hfl : ∀ p ∈ found (a :: r), PB 2000 p ∧ p.2.length ≤ 2 := found_pb hp hd
  have hfn : (found (a :: r)).length ≤ 2000 := found_len hlen
  unfold as_borders
  refine rs_seq (rs_if (rs_test (rs_op (rs_cb (rs_cons (rs_op (rs_op (rv_var rfl (rv_c ?_)))))))))
  refine ix_seqP (atI_0 a r) _ _ (rv_c (ix_pt1 (rs_nil (len_tupI (rv_c (eq_int (br_beq (fun e => ?_) (fun e => ?_))))))))
  · -- one term
    have e1 : a.2.length = 1 := by omega
    refine rs_set (rs_call (rs_cons (rv_var rfl (rs_nil ?_))))
    have h1 : ∀ p ∈ a :: r, p.2.length = 1 := by
      rcases hd with hd | hd
      · exact hd
      · have := hd a (by simp)
        omega
    refine ⟨b, a, r, rfl, h1, ?_⟩
    have ef : found (a :: r) = endsP a ((a :: r).getLastD a) := if_pos e1
    rw [← ef]
    exact fin b _ _ _ _ _ _ hfl hfn trivial
  · have h2 : ∀ p ∈ a :: r, p.2.length = 2 := by
      rcases hd with hd | hd
      · have := hd a (by simp)
        exact absurd (by omega) e
      · exact hd
    have n1 : ¬ a.2.length = 1 := by
      have := h2 a (by simp)
      omega
    refine rs_if (rs_test (rs_op (rs_cb (rs_cons (rv_var rfl (rs_nil (len_seqP (rv_c (eq_int (br_beq (fun e => ?_) (fun e => ?_)))))))))))
    · -- a point
      have er : r = [] := by
        cases r with
        | nil => rfl
        | cons c r =>
          simp at e
          omega
      subst er
      refine rs_set (rs_call (rs_cons (rs_op (rv_var rfl (rv_c (ix_seqP (atI_0 a []) _ _ (rs_nil ?_)))))))
      refine ⟨a, rfl, h2 a (by simp), ?_⟩
      have ef : found [a] = ptB a := if_neg n1
      rw [← ef]
      exact fin b _ _ _ _ _ _ hfl hfn trivial
    · refine rs_if (rs_test (rs_op (rs_cb (rs_cons (rv_var rfl (rs_nil (len_seqP (rv_c (eq_int (br_beq (fun e2 => ?_) (fun e2 => ?_)))))))))))
      · -- a stretch
        obtain ⟨c, rfl⟩ : ∃ c, r = [c] := by
          match r, e2 with
          | [c], _ => exact ⟨c, rfl⟩
          | [], e2 => simp at e2
          | _ :: _ :: _, e2 =>
            simp at e2
            omega
        have pa := (hp a (by simp)).1
        have pc := (hp c (by simp)).1
        have ef : found [a, c] = [lineP a c, negP (lineP a c)] ++ strE a c := if_neg n1
        refine rs_seq (rs_asg (rs_call (rs_cons (rs_op (rv_var rfl (rv_c (ix_seqP (atI_0 a [c]) _ _ (rs_cons (rs_op (rv_var rfl (rv_c (ix_seqP (atI_1 a c []) _ _ (rs_nil ?_)))))))))))))
        refine ⟨a, c, rfl, pa, pc, h2 a (by simp), h2 c (by simp), ?_⟩
        refine and2 rfl (and2 rfl ?_)
        dsimp only
        refine rs_seq (rs_set (rs_tup (rs_cons (rs_op (rv_c (rv_var rfl (rs_subI ?_)))))))
        refine rs_cons (rs_cb (rs_cons ?_))
        have hl2 : (lineP a c).2.length = 2 := rfl
        refine lc_run ((lineP a c).2.map D.int) ((lineP a c).2.map fun x => D.int (0 - x)) (fun R r => r) rfl (by simp [hl2]) (by simp) ?_ ?_
        · intro i d e hd he k k2 hk
          rw [List.getElem?_map] at hd he
          cases hi : (lineP a c).2[i]? with
          | none =>
            rw [hi] at hd
            cases hd
          | some x =>
            rw [hi] at hd he
            cases hd
            cases he
            refine br_tt ?_
            exact hk _ rfl
        · refine rs_nil (and2 (ble5 rfl) ?_)
          dsimp only
          refine rs_set (rs_lst (rs_cons (rs_tup (rs_cons (rv_var rfl (rs_cons (rv_var rfl (rs_nil (and2 (ble5 rfl) ?_)))))))))
          refine rs_cons (rv_var rfl ?_)
          refine rs_call (rs_cons (rs_op (rv_var rfl (rv_c (ix_seqP (atI_0 a [c]) _ _ (rs_cons (rs_op (rv_var rfl (rv_c (ix_seqP (atI_1 a c []) _ _ (rs_nil ?_))))))))))) 
          refine ⟨a, c, rfl, pa, pc, h2 a (by simp), h2 c (by simp), ?_⟩
          refine and2 (ble5 rfl) ?_
          have q1 := fin b (.dat (ptD (negP (lineP a c)))) (.dat (.int (lineP a c).1)) (.dat (tupI (lineP a c).2)) .un .un .un hfl hfn trivial
          rw [ef] at q1
          exact q1
      · -- a polygon
        have ef : found (a :: r) = ((a :: r).zip (rot (a :: r))).map fun z => lineP z.1 z.2 := by
          match r, e, e2 with
          | [], e, _ => exact absurd rfl e
          | [_], _, e2 => exact absurd rfl e2
          | _ :: _ :: _, _, _ => exact if_neg n1
        have erot : Ab.cutD ((a :: r).map ptD) (some 1) none ++ [ptD a] = (rot (a :: r)).map ptD := by
          have c1 : Ab.cutD ((a :: r).map ptD) (some 1) none = r.map ptD := by
            unfold Ab.cutD
            rw [show HT.sIx ((a :: r).map ptD).length 0 (some 1) = min 1 ((a :: r).map ptD).length from HT.sIx_nat _ 0 1, HT.sIx_none]
            have hm : min 1 ((a :: r).map ptD).length = 1 := by
              rw [List.length_map, List.length_cons]
              omega
            rw [hm]
            show List.take (((a :: r).map ptD).length - 1) (r.map ptD) = r.map ptD
            apply List.take_of_length_le
            rw [List.length_map, List.length_map, List.length_cons]
            omega
          rw [c1]
          unfold rot
          rw [List.map_append]
          rfl
        have key : ∀ R : List D → Nat → Prop, R (zipD ((a :: r).map ptD) ((rot (a :: r)).map ptD)) n →
            aZip (aCons (aVar 0) (aCons (aLst (aStar (aSl (aVar 0) (aPart (aC (.int 1))) aNoPart) (aCons (aOp arIx (aVar 0) (aC (.int 0))) aNil))) aNil)) (startA 8 [.st (seqP b (a :: r))]) n R := fun R q => by
          have lst : ∀ K : AV → Nat → Prop, K (.fr ((rot (a :: r)).map ptD)) n → aLst (aStar (aSl (aVar 0) (aPart (aC (.int 1))) aNoPart) (aCons (aOp arIx (aVar 0) (aC (.int 0))) aNil)) (startA 8 [.st (seqP b (a :: r))]) n K := fun K kq => by
            have e1 : stAll ((Ab.cutD ((a :: r).map ptD) (some 1) none).map AV.st ++ [AV.st (ptD a)]) = some ((rot (a :: r)).map ptD) := by
              rw [stAll_st]
              show some (Ab.cutD ((a :: r).map ptD) (some 1) none ++ [ptD a]) = _
              rw [erot]
            have hl : ((rot (a :: r)).map ptD).length ≤ 100000 := by
              rw [List.length_map]
              unfold rot
              rw [List.length_append, List.length_drop, List.length_take]
              omega
            refine rs_lst (sl_from b _ (fun av hav => ?_))
            have fin2 : (match stAll ((Ab.cutD ((a :: r).map ptD) (some 1) none).map AV.st ++ [AV.st (ptD a)]) with
                | some ds => ds.length ≤ 100000 ∧ K (.fr ds) n
                | none => False) := by
              rw [e1]
              exact ⟨hl, kq⟩
            rcases hav with rfl | rfl
            · refine rs_cons (rs_op (rv_var rfl (rv_c (ix_seqP (atI_0 a r) _ _ (rs_nil ?_)))))
              exact fin2
            · refine rs_cons (rs_op (rv_var rfl (rv_c (ix_seqP (atI_0 a r) _ _ (rs_nil ?_)))))
              exact fin2
          refine (show aCons (aVar 0) (aCons (aLst (aStar (aSl (aVar 0) (aPart (aC (.int 1))) aNoPart) (aCons (aOp arIx (aVar 0) (aC (.int 0))) aNil))) aNil) (startA 8 [.st (seqP b (a :: r))]) n _ from ?_)
          refine rs_cons (rv_var rfl (rs_cons (lst _ (rs_nil ?_))))
          cases b with
          | true => exact q
          | false => exact q
        refine rs_set ?_
        refine lc_run _ (((a :: r).zip (rot (a :: r))).map fun z => ptD (lineP z.1 z.2)) key rfl ?_ ?_ ?_ ?_
        · unfold zipD
          rw [List.length_map, List.length_zip, List.length_map]
          omega
        · unfold zipD
          rw [List.length_map, List.length_map, List.length_zip, List.length_zip, List.length_map, List.length_map]
        · intro i d e hd he k k2 hk
          unfold zipD at hd
          rw [List.zip_map, List.map_map, List.getElem?_map] at hd
          rw [List.getElem?_map] at he
          cases hi : ((a :: r).zip (rot (a :: r)))[i]? with
          | none =>
            rw [hi] at hd
            cases hd
          | some z =>
            rw [hi] at hd he
            cases hd
            cases he
            have m := List.of_mem_zip (List.mem_of_getElem? hi)
            have m2 := rot_mem m.2
            refine and2 rfl (and2 rfl (br_tt ?_))
            refine rs_call (rs_cons (rv_var rfl (rs_cons (rv_var rfl (rs_nil ?_)))))
            exact ⟨z.1, z.2, rfl, (hp _ m.1).1, (hp _ m2).1, h2 _ m.1, h2 _ m2, hk _ rfl⟩
        · have q1 := fin b .un .un .un .un .un .un hfl hfn trivial
          rw [ef, List.map_map] at q1
          exact q1
end K58
set_option Elab.async false
set_option linter.all false
set_option maxRecDepth 100000
set_option maxHeartbeats 4000000
/-! K58M: the plain law: lowest terms, the order of points, chains. -/
namespace K58
open PySem PySem.Spec PyProof.Rows L2 Ab

/-! ### lowest terms -/
theorem foldl_gcd_mul (c : Nat) : ∀ (l : List Int) (g : Nat) (m : Int), m.natAbs = c → (l.map fun x => m * x).foldl (fun g x => Nat.gcd g x.natAbs) (c * g) = c * l.foldl (fun g x => Nat.gcd g x.natAbs) g
  | [], _, _, _ => rfl
  | x :: l, g, m, h => by
    rw [List.map_cons, List.foldl_cons, List.foldl_cons, Int.natAbs_mul, h, Nat.gcd_mul_left]
    exact foldl_gcd_mul c l _ m h
theorem gcdN_mul (m : Int) (l : List Int) : gcdN (l.map fun x => m * x) = m.natAbs * gcdN l := by
  have := foldl_gcd_mul m.natAbs l 0 m rfl
  unfold gcdN
  rw [Nat.mul_zero] at this
  exact this
def mulP (c : Int) (p : Pt) : Pt := (c * p.1, p.2.map fun x => c * x)
theorem gcd_mulP (c : Int) (p : Pt) : gcdN ((mulP c p).1 :: (mulP c p).2) = c.natAbs * gcdN (p.1 :: p.2) := gcdN_mul c (p.1 :: p.2)
theorem low_mulP {c : Int} (h : 0 < c) (p : Pt) : low (mulP c p) = low p := by
  have e : ((gcdN ((mulP c p).1 :: (mulP c p).2) : Nat) : Int) = c * (gcdN (p.1 :: p.2) : Int) := by
    rw [gcd_mulP, Int.natCast_mul, Int.natAbs_of_nonneg (by omega)]
  unfold low
  rw [e]
  unfold mulP
  rw [Int.mul_ediv_mul_of_pos _ _ h, List.map_map]
  congr 1
  apply List.map_congr_left
  intro x _
  exact Int.mul_ediv_mul_of_pos _ _ h
theorem low_back {p : Pt} (hg : 0 < gcdN (p.1 :: p.2)) : mulP (gcdN (p.1 :: p.2) : Int) (low p) = p := by
  obtain ⟨b, cs⟩ := p
  unfold mulP low
  dsimp only
  rw [List.map_map]
  have dv : ∀ x ∈ b :: cs, ((gcdN (b :: cs) : Nat) : Int) * (x / (gcdN (b :: cs) : Int)) = x := fun x hx => by
    rw [Int.mul_comm]
    exact Int.ediv_mul_cancel (Int.ofNat_dvd_left.mpr (gcdN_dvd hx))
  rw [dv b (by simp)]
  congr 1
  conv => rhs; rw [← List.map_id cs]
  apply List.map_congr_left
  intro x hx
  exact dv x (by simp [hx])
/-- in lowest terms, the first above 0 -/
def Nm (p : Pt) : Prop := 0 < p.1 ∧ gcdN (p.1 :: p.2) = 1
theorem gcd_low {p : Pt} (hg : 0 < gcdN (p.1 :: p.2)) : gcdN ((low p).1 :: (low p).2) = 1 := by
  have h := gcd_mulP (gcdN (p.1 :: p.2) : Int) (low p)
  rw [low_back hg, Int.natAbs_natCast] at h
  generalize gcdN ((low p).1 :: (low p).2) = k at h ⊢
  have h1 : gcdN (p.1 :: p.2) * 1 = gcdN (p.1 :: p.2) * k := by rw [Nat.mul_one]; exact h
  exact (Nat.eq_of_mul_eq_mul_left hg h1).symm
theorem gcd_pos_of {p : Pt} (h : p.1 ≠ 0) : 0 < gcdN (p.1 :: p.2) := by
  rcases Nat.eq_zero_or_pos (gcdN (p.1 :: p.2)) with h0 | h0
  · have := gcdN_dvd (ns := p.1 :: p.2) (x := p.1) (by simp)
    rw [h0] at this
    have := Nat.eq_zero_of_zero_dvd this
    omega
  · exact h0
theorem gcd_pos_mem {l : List Int} {x : Int} (hx : x ∈ l) (h : x ≠ 0) : 0 < gcdN l := by
  rcases Nat.eq_zero_or_pos (gcdN l) with h0 | h0
  · have := gcdN_dvd hx
    rw [h0] at this
    have := Nat.eq_zero_of_zero_dvd this
    omega
  · exact h0
theorem low_nm {p : Pt} (h : 0 < p.1) : Nm (low p) := by
  have hg := gcd_pos_of (p := p) (by omega)
  refine ⟨?_, gcd_low hg⟩
  have e : mulP (gcdN (p.1 :: p.2) : Int) (low p) = p := low_back hg
  have e1 : (gcdN (p.1 :: p.2) : Int) * (low p).1 = p.1 := congrArg Prod.fst e
  rcases Int.lt_or_le 0 (low p).1 with q | q
  · exact q
  · have := Int.mul_nonpos_of_nonneg_of_nonpos (a := (gcdN (p.1 :: p.2) : Int)) (by omega) q
    omega
theorem low_pb {k : Nat} {p : Pt} (h : PB k p) : PB k (low p) := by
  refine ⟨?_, fun x hx => ?_⟩
  · exact Nat.lt_of_le_of_lt (Int.natAbs_ediv_le_natAbs _ _) h.1
  · obtain ⟨y, hy, rfl⟩ := List.mem_map.mp hx
    exact Nat.lt_of_le_of_lt (Int.natAbs_ediv_le_natAbs _ _) (h.2 y hy)
theorem low_len (p : Pt) : (low p).2.length = p.2.length := List.length_map ..
theorem nm_eq {p r : Pt} (hp : Nm p) (hr : Nm r) (h : mulP r.1 p = mulP p.1 r) : p = r := by
  have h1 := gcd_mulP r.1 p
  have h2 := gcd_mulP p.1 r
  rw [h, h2, hp.2, hr.2] at h1
  have h3 : p.1 = r.1 := by
    have := hp.1
    have := hr.1
    omega
  have h4 : p.2.map (fun x => r.1 * x) = r.2.map fun x => p.1 * x := congrArg Prod.snd h
  rw [h3] at h4
  have h5 : p.2 = r.2 := by
    have inj : ∀ x y : Int, r.1 * x = r.1 * y → x = y := fun x y e => Int.eq_of_mul_eq_mul_left (by have := hr.1; omega) e
    exact (List.map_inj_right (f := fun x => r.1 * x) (fun x y e => inj x y e)).mp h4
  exact Prod.ext h3 h5

/-! ### the order of points: the sign of om -/
def om (N : Int) (p r : Pt) : Int := N * (p.1 * x0 r - x0 p * r.1) + (p.1 * x1 r - x1 p * r.1)
theorem plucker (N : Int) (b a c d : Pt) : side b a c * om N b d - side b a d * om N b c + om N b a * side b c d = 0 := by
  unfold side om
  generalize b.1 = b0, x0 b = b1, x1 b = b2
  generalize a.1 = a0, x0 a = a1, x1 a = a2
  generalize c.1 = c0, x0 c = c1, x1 c = c2
  generalize d.1 = d0, x0 d = d1, x1 d = d2
  grind
theorem side_sw (a b c : Pt) : side a c b = - side a b c := by unfold side; grind
theorem side_sw2 (a b c : Pt) : side b a c = - side a b c := by unfold side; grind
theorem side_self (a b : Pt) : side a b b = 0 := by unfold side; grind
theorem side_self2 (a b : Pt) : side a b a = 0 := by unfold side; grind
theorem om_sw (N : Int) (a b : Pt) : om N b a = - om N a b := by unfold om; grind
theorem om_self (N : Int) (a : Pt) : om N a a = 0 := by unfold om; grind
theorem om_tr (N : Int) (a b c : Pt) : om N a c * b.1 = om N a b * c.1 + om N b c * a.1 := by unfold om; grind
theorem nn_of {x u : Int} (hu : 0 < u) (h : 0 ≤ x * u) : 0 ≤ x := by
  rcases Int.lt_or_le x 0 with q | q
  · have := Int.mul_neg_of_neg_of_pos q hu
    omega
  · exact q
theorem ps_of {x u : Int} (hu : 0 < u) (h : 0 < x * u) : 0 < x := by
  rcases Int.lt_or_le 0 x with q | q
  · exact q
  · have := Int.mul_nonpos_of_nonpos_of_nonneg q (by omega : 0 ≤ u)
    omega
theorem om_trans {N : Int} {a b c : Pt} (ha : 0 < a.1) (hb : 0 < b.1) (hc : 0 < c.1) (h1 : 0 < om N a b) (h2 : 0 ≤ om N b c) : 0 < om N a c := by
  have e := om_tr N a b c
  have m1 := Int.mul_pos h1 hc
  have m2 := Int.mul_nonneg h2 (by omega : 0 ≤ a.1)
  exact ps_of hb (by omega)
/-- edges of a chain, its last first: every point of T on its side -/
def Ed (N e : Int) (T : List Pt) (b a : Pt) : Prop := 0 < om N a b ∧ ∀ t ∈ T, 0 ≤ e * side a b t
def ChI (N e : Int) (T : List Pt) : List Pt → Prop
  | [] => True
  | [f] => ∀ t ∈ T, 0 ≤ om N f t
  | b :: a :: r => Ed N e T b a ∧ ChI N e T (a :: r)
def popE (e : Int) : List Pt → Pt → List Pt
  | b :: a :: r, p => if e * side a b p ≤ 0 then popE e (a :: r) p else b :: a :: r
  | s, _ => s
theorem popS_up : ∀ (s : List Pt) (p : Pt), popS true s p = popE 1 s p
  | [], _ => by simp [popS, popE]
  | [_], _ => by simp [popS, popE]
  | b :: a :: r, p => by
    rw [popS, popE, popS_up (a :: r) p]
    simp
theorem popS_dn : ∀ (s : List Pt) (p : Pt), popS false s p = popE (-1) s p
  | [], _ => by simp [popS, popE]
  | [_], _ => by simp [popS, popE]
  | b :: a :: r, p => by
    rw [popS, popE, popS_dn (a :: r) p]
    simp
section
variable {N e : Int} {T : List Pt} {p : Pt}
theorem ch_ext (hT : ∀ t ∈ T, 0 < t.1) (hp : 0 < p.1) (hlt : ∀ t ∈ T, 0 < om N t p) : ∀ (r : List Pt) (b a : Pt), (∀ x ∈ b :: a :: r, x ∈ T) → ChI N e T (b :: a :: r) → 0 < e * side a b p → ChI N e (p :: T) (b :: a :: r)
  | r, b, a, hs, hc, h0 => by
    obtain ⟨⟨h1, h2⟩, h3⟩ := hc
    refine ⟨⟨h1, fun t ht => ?_⟩, ?_⟩
    · rcases List.mem_cons.mp ht with rfl | ht
      · omega
      · exact h2 t ht
    · have ha := hs a (by simp)
      have hb := hs b (by simp)
      cases r with
      | nil =>
        intro t ht
        rcases List.mem_cons.mp ht with rfl | ht
        · have := hlt a ha
          omega
        · exact h3 t ht
      | cons z r =>
        have hz := hs z (by simp)
        refine ch_ext hT hp hlt r a z (fun x hx => hs x (List.mem_cons_of_mem _ hx)) h3 ?_
        have q1 := h3.1.2 b hb
        have q2 := h3.1.1
        have q3 := hlt a ha
        have pl := plucker N a z b p
        rw [side_sw2 z a b, side_sw2 z a p, om_sw N z a] at pl
        -- side z a p * om a b = side z a b * om a p + om z a * side a b p
        have m1 := Int.mul_nonneg q1 (by omega : 0 ≤ om N a p)
        have m2 := Int.mul_pos q2 h0
        refine ps_of h1 ?_
        have e1 : e * side z a p * om N a b = e * side z a b * om N a p + om N z a * (e * side a b p) := by grind
        omega
theorem push_ok (hT : ∀ t ∈ T, 0 < t.1) (hp : 0 < p.1) (hlt : ∀ t ∈ T, 0 < om N t p) : ∀ (r : List Pt) (b : Pt), (∀ x ∈ b :: r, x ∈ T) → ChI N e T (b :: r) → (∀ t ∈ T, 0 ≤ om N b t → 0 ≤ e * side b p t) → ChI N e (p :: T) (p :: popE e (b :: r) p)
  | [], b, hs, hc, hj => by
    rw [popE.eq_def]
    dsimp only
    have hb := hs b (by simp)
    refine ⟨⟨hlt b hb, fun t ht => ?_⟩, fun t ht => ?_⟩
    · rcases List.mem_cons.mp ht with rfl | ht
      · rw [side_self]
        omega
      · exact hj t ht (hc t ht)
    · rcases List.mem_cons.mp ht with rfl | ht
      · have := hlt b hb
        omega
      · exact hc t ht
  | a :: r, b, hs, hc, hj => by
    have hb := hs b (by simp)
    have ha := hs a (by simp)
    obtain ⟨⟨h1, h2⟩, h3⟩ := hc
    rw [popE.eq_def]
    dsimp only
    split
    · next hpop =>
      refine push_ok hT hp hlt r a (fun x hx => hs x (List.mem_cons_of_mem _ hx)) h3 fun t ht h0 => ?_
      have la := hlt a ha
      have lb := hlt b hb
      have lt := hlt t ht
      rcases Int.lt_or_le (om N b t) 0 with q | q
      · have k := h2 t ht
        have pl := plucker N a b t p
        -- side a b t * om a p - side a b p * om a t + om a b * side a t p = 0
        have m1 := Int.mul_nonneg k (by omega : 0 ≤ om N a p)
        have m2 := Int.mul_nonneg (by omega : 0 ≤ -(e * side a b p)) h0
        refine nn_of h1 ?_
        have e1 : e * side a p t * om N a b = e * side a b t * om N a p + -(e * side a b p) * om N a t := by
          have := side_sw a t p
          grind
        omega
      · have k := hj t ht q
        have pl := plucker N p a b t
        -- side p a b * om p t - side p a t * om p b + om p a * side p b t = 0
        have m1 := Int.mul_nonneg (by omega : 0 ≤ -(e * side a b p)) (by omega : 0 ≤ om N t p)
        have m2 := Int.mul_nonneg k (by omega : 0 ≤ om N a p)
        refine nn_of lb ?_
        have e1 : e * side a p t * om N b p = -(e * side a b p) * om N t p + e * side b p t * om N a p := by
          rw [om_sw N t p, om_sw N b p, om_sw N a p, side_sw2 a p t, side_sw2 b p t] at pl
          have : side p a b = side a b p := by unfold side; grind
          rw [this] at pl
          grind
        omega
    · next hpop =>
      have h0 : 0 < e * side a b p := by omega
      refine ⟨⟨hlt b hb, fun t ht => ?_⟩, ch_ext hT hp hlt r b a hs ⟨⟨h1, h2⟩, h3⟩ h0⟩
      rcases List.mem_cons.mp ht with rfl | ht
      · rw [side_self]
        omega
      · rcases Int.lt_or_le (om N b t) 0 with q | q
        · have lb := hlt b hb
          have k := h2 t ht
          have pl := plucker N b a t p
          -- side b a t * om b p - side b a p * om b t + om b a * side b t p = 0
          have m1 := Int.mul_nonneg (by omega : 0 ≤ e * side a b p) (by omega : 0 ≤ -(om N b t))
          have m2 := Int.mul_nonneg k (by omega : 0 ≤ om N b p)
          refine nn_of h1 ?_
          have e1 : e * side b p t * om N a b = e * side a b p * -(om N b t) + e * side a b t * om N b p := by
            rw [side_sw2 a b t, side_sw2 a b p, om_sw N a b] at pl
            have := side_sw b t p
            grind
          omega
        · exact hj t ht q
theorem popE_sub : ∀ (s : List Pt) (p x : Pt), x ∈ popE e s p → x ∈ s
  | [], _, _, h => by simpa [popE] using h
  | [_], _, _, h => by simpa [popE] using h
  | b :: a :: r, p, x, h => by
    rw [popE] at h
    split at h
    · exact List.mem_cons_of_mem _ (popE_sub (a :: r) p x h)
    · exact h
theorem popE_last : ∀ (s : List Pt) (p : Pt), (popE e s p).getLast? = s.getLast?
  | [], _ => by simp [popE]
  | [_], _ => by simp [popE]
  | b :: a :: r, p => by
    rw [popE]
    split
    · rw [popE_last (a :: r) p, List.getLast?_cons_cons]
    · rfl
theorem popE_ne : ∀ (s : List Pt) (p : Pt), s ≠ [] → popE e s p ≠ []
  | [], _, h => absurd rfl h
  | [_], _, _ => by simp [popE]
  | b :: a :: r, p, _ => by
    rw [popE]
    split
    · exact popE_ne (a :: r) p (by simp)
    · simp
def chE (e : Int) (l : List Pt) (s : List Pt) : List Pt := l.foldl (fun s p => p :: popE e s p) s
/-- a chain over points in order -/
theorem ch_fold (e : Int) : ∀ (l T' : List Pt) (b : Pt) (r : List Pt), (∀ t ∈ b :: T', 0 < t.1) → (∀ t ∈ l, 0 < t.1) → (∀ x ∈ b :: r, x ∈ b :: T') → ChI N e (b :: T') (b :: r) → (∀ t ∈ T', 0 < om N t b) → (∀ t ∈ b :: T', ∀ x ∈ l, 0 < om N t x) → l.Pairwise (fun x y => 0 < om N x y) →
    ∃ c r' T'', chE e l (b :: r) = c :: r' ∧ (∀ x, x ∈ c :: T'' ↔ x ∈ l ∨ x ∈ b :: T') ∧ ChI N e (c :: T'') (c :: r') ∧ (∀ x ∈ c :: r', x ∈ c :: T'') ∧ (c :: r').getLast? = (b :: r).getLast? ∧ (∀ t ∈ T'', 0 < om N t c) ∧ (b :: l).getLast? = some c
  | [], T', b, r, h1, _, h3, h4, h5, _, _ => ⟨b, r, T', rfl, by simp, h4, h3, rfl, h5, rfl⟩
  | p :: l, T', b, r, h1, h2, h3, h4, h5, h6, h7 => by
    have hp := h2 p (by simp)
    have hlt : ∀ t ∈ b :: T', 0 < om N t p := fun t ht => h6 t ht p (by simp)
    have q := push_ok (e := e) h1 hp hlt r b h3 h4 fun t ht h0 => by
      rcases List.mem_cons.mp ht with rfl | ht
      · rw [side_self2]
        omega
      · have := h5 t ht
        rw [om_sw N b t] at this
        omega
    rw [List.pairwise_cons] at h7
    obtain ⟨c, r', T'', e1, e2, e3, e4, e5, e6, e7⟩ := ch_fold e l (b :: T') p (popE e (b :: r) p) (fun t ht => by
      rcases List.mem_cons.mp ht with rfl | ht
      · exact hp
      · exact h1 t ht) (fun t ht => h2 t (by simp [ht])) (fun x hx => by
      rcases List.mem_cons.mp hx with rfl | hx
      · simp
      · exact List.mem_cons_of_mem _ (h3 x (popE_sub _ _ _ hx))) q hlt (fun t ht x hx => by
      rcases List.mem_cons.mp ht with rfl | ht
      · exact h7.1 x hx
      · exact h6 t ht x (by simp [hx])) h7.2
    refine ⟨c, r', T'', e1, fun x => ?_, e3, e4, ?_, e6, ?_⟩
    · rw [e2 x]
      simp only [List.mem_cons]
      grind
    · rw [e5]
      obtain ⟨u, v, huv⟩ : ∃ u v, popE e (b :: r) p = u :: v := by
        cases hh : popE e (b :: r) p with
        | nil => exact absurd hh (popE_ne _ _ (by simp))
        | cons u v => exact ⟨u, v, rfl⟩
      have := popE_last (e := e) (b :: r) p
      rw [huv] at this ⊢
      rw [List.getLast?_cons_cons, this]
    · rw [List.getLast?_cons_cons]
      exact e7
end
end K58
set_option Elab.async false
set_option linter.all false
set_option maxRecDepth 100000
set_option maxHeartbeats 4000000
/-! K58N: the plain law: points in order. -/
namespace K58
open PySem PySem.Spec PyProof.Rows L2 Ab
def NN : Int := 2 ^ 200
structure OkP (m : Nat) (p : Pt) : Prop where
  pb : PB 60 p
  nm : Nm p
  len : p.2.length = m
theorem lex_pos {N a b : Int} (h1 : -N < b) (h2 : b < N) : 0 < N * a + b ↔ 0 < a ∨ (a = 0 ∧ 0 < b) := by
  rcases Int.lt_trichotomy a 0 with h | h | h
  · have := Int.mul_le_mul_of_nonneg_left (a := a) (b := -1) (c := N) (by omega) (by omega)
    omega
  · subst h
    omega
  · have := Int.mul_le_mul_of_nonneg_left (a := 1) (b := a) (c := N) (by omega) (by omega)
    omega
theorem lex_zero {N a b : Int} (h1 : -N < b) (h2 : b < N) (h : N * a + b = 0) : a = 0 ∧ b = 0 := by
  rcases Int.lt_trichotomy a 0 with h | h | h
  · have := Int.mul_le_mul_of_nonneg_left (a := a) (b := -1) (c := N) (by omega) (by omega)
    omega
  · subst h
    omega
  · have := Int.mul_le_mul_of_nonneg_left (a := 1) (b := a) (c := N) (by omega) (by omega)
    omega
theorem lb_x0 {k : Nat} {p : Pt} (h : PB k p) : Lb k (x0 p) := by
  obtain ⟨q, l⟩ := p
  cases l with
  | nil => exact Nat.two_pow_pos k
  | cons a l => exact h.2 a (by simp)
theorem lb_x1 {k : Nat} {p : Pt} (h : PB k p) : Lb k (x1 p) := by
  obtain ⟨q, l⟩ := p
  match l with
  | [] => exact Nat.two_pow_pos k
  | [_] => exact Nat.two_pow_pos k
  | _ :: b :: l => exact h.2 b (by simp)
theorem d1_small {p r : Pt} (hp : PB 60 p) (hr : PB 60 r) : -NN < p.1 * x1 r - x1 p * r.1 ∧ p.1 * x1 r - x1 p * r.1 < NN := by
  have h : Lb 121 (p.1 * x1 r - x1 p * r.1) := (hp.1.mul (lb_x1 hr)).sub ((lb_x1 hp).mul hr.1)
  have h2 : Lb 200 (p.1 * x1 r - x1 p * r.1) := h.mono (by decide)
  unfold Lb at h2
  unfold NN
  have e : (2 : Int) ^ 200 = ((2 ^ 200 : Nat) : Int) := by norm_cast
  rw [e]
  omega
variable {m : Nat} {p r t : Pt}
theorem before_iff (hp : OkP m p) (hr : OkP m r) (hm : m = 1 ∨ m = 2) : before p r = true ↔ 0 < om NN p r := by
  have ds := d1_small hp.pb hr.pb
  unfold om
  rw [lex_pos ds.1 ds.2]
  have l1 := hp.len
  have l2 := hr.len
  obtain ⟨q, ps⟩ := p
  obtain ⟨k, rs⟩ := r
  rcases hm with rfl | rfl
  · obtain ⟨a, rfl⟩ := len1 l1
    obtain ⟨c, rfl⟩ := len1 l2
    have e : before (q, [a]) (k, [c]) = if a * k = c * q then false else decide (a * k < c * q) := rfl
    rw [e]
    show _ ↔ 0 < q * c - a * k ∨ (q * c - a * k = 0 ∧ 0 < q * 0 - 0 * k)
    rw [Int.mul_comm q c]
    split
    · simp
      omega
    · simp
      try omega
  · obtain ⟨a, b, rfl⟩ := len2 l1
    obtain ⟨c, d, rfl⟩ := len2 l2
    have e : before (q, [a, b]) (k, [c, d]) = if a * k = c * q then (if b * k = d * q then false else decide (b * k < d * q)) else decide (a * k < c * q) := rfl
    rw [e]
    show _ ↔ 0 < q * c - a * k ∨ (q * c - a * k = 0 ∧ 0 < q * d - b * k)
    rw [Int.mul_comm q c, Int.mul_comm q d]
    split
    · split
      · simp
        omega
      · simp
        omega
    · simp
      omega
theorem om_zero (hp : OkP m p) (hr : OkP m r) (hm : m = 1 ∨ m = 2) (h : om NN p r = 0) : p = r := by
  have ds := d1_small hp.pb hr.pb
  unfold om at h
  obtain ⟨h0, h1⟩ := lex_zero ds.1 ds.2 h
  apply nm_eq hp.nm hr.nm
  have l1 := hp.len
  have l2 := hr.len
  obtain ⟨q, ps⟩ := p
  obtain ⟨k, rs⟩ := r
  rcases hm with rfl | rfl
  · obtain ⟨a, rfl⟩ := len1 l1
    obtain ⟨c, rfl⟩ := len1 l2
    replace h0 : q * c - a * k = 0 := h0
    show ((k * q, [k * a]) : Pt) = (q * k, [q * c])
    rw [Int.mul_comm k q, show k * a = q * c by rw [Int.mul_comm k a]; omega]
  · obtain ⟨a, b, rfl⟩ := len2 l1
    obtain ⟨c, d, rfl⟩ := len2 l2
    replace h0 : q * c - a * k = 0 := h0
    replace h1 : q * d - b * k = 0 := h1
    show ((k * q, [k * a, k * b]) : Pt) = (q * k, [q * c, q * d])
    rw [Int.mul_comm k q, show k * a = q * c by rw [Int.mul_comm k a]; omega, show k * b = q * d by rw [Int.mul_comm k b]; omega]
theorem before_total (hp : OkP m p) (hr : OkP m r) (hm : m = 1 ∨ m = 2) (h : ¬ before p r = true) (hn : p ≠ r) : 0 < om NN r p := by
  rw [before_iff hp hr hm] at h
  have := om_sw NN p r
  rcases Int.lt_trichotomy (om NN p r) 0 with q | q | q
  · omega
  · exact absurd (om_zero hp hr hm q) hn
  · omega
/-- strictly in order -/
abbrev Srt (l : List Pt) : Prop := l.Pairwise fun x y => 0 < om NN x y
theorem cut_sorted (hm : m = 1 ∨ m = 2) : ∀ (f : List Pt) (p : Pt), (∀ x ∈ f, OkP m x) → OkP m p → Srt f → (∀ x ∈ f.take (f.filter fun o => before o p).length, before x p = true) ∧ ∀ x ∈ f.drop (f.filter fun o => before o p).length, ¬ before x p = true
  | [], p, _, _, _ => by simp
  | y :: f, p, hf, hp, hs => by
    rw [Srt, List.pairwise_cons] at hs
    have hy := hf y (by simp)
    by_cases hb : before y p = true
    · rw [List.filter_cons_of_pos (p := fun o => before o p) hb, List.length_cons, List.take_succ_cons, List.drop_succ_cons]
      obtain ⟨h1, h2⟩ := cut_sorted hm f p (fun x hx => hf x (by simp [hx])) hp hs.2
      exact ⟨fun x hx => (List.mem_cons.mp hx).elim (fun e => e ▸ hb) (h1 x), h2⟩
    · have h0 : ∀ x ∈ f, ¬ before x p = true := fun x hx hxp => hb (by
        have hx' := hf x (by simp [hx])
        rw [before_iff hx' hp hm] at hxp
        rw [before_iff hy hp hm]
        exact om_trans hy.nm.1 hx'.nm.1 hp.nm.1 (hs.1 x hx) (by omega))
      have e : f.filter (fun o => before o p) = [] := List.filter_eq_nil_iff.mpr h0
      rw [List.filter_cons_of_neg (p := fun o => before o p) hb, e]
      refine ⟨by simp, fun x hx => ?_⟩
      rcases List.mem_cons.mp hx with rfl | hx
      · exact hb
      · exact h0 x hx
theorem ins_ok (hm : m = 1 ∨ m = 2) {f : List Pt} (hf : ∀ x ∈ f, OkP m x) (hp : OkP m p) (hs : Srt f) : (∀ x, x ∈ ins f p ↔ x = p ∨ x ∈ f) ∧ Srt (ins f p) := by
  unfold ins
  split
  · next h => exact ⟨fun x => ⟨.inr, fun z => z.elim (fun e => e ▸ h) id⟩, hs⟩
  · next h =>
    have c := cut_sorted hm f p hf hp hs
    generalize hk : (f.filter fun o => before o p).length = k at c
    have mem : ∀ x, x ∈ f.take k ∨ x ∈ f.drop k ↔ x ∈ f := fun x => by
      rw [← List.mem_append, List.take_append_drop]
    refine ⟨fun x => ?_, ?_⟩
    · rw [← mem x]
      simp only [List.mem_append, List.mem_singleton]
      grind
    · rw [Srt, List.append_assoc, List.pairwise_append]
      have hs2 : Srt (f.take k ++ f.drop k) := by rw [List.take_append_drop]; exact hs
      rw [Srt, List.pairwise_append] at hs2
      have lp : ∀ x ∈ f.take k, 0 < om NN x p := fun x hx => (before_iff (hf x ((mem x).mp (.inl hx))) hp hm).mp (c.1 x hx)
      refine ⟨hs2.1, ?_, fun x hx y hy => ?_⟩
      · rw [List.singleton_append, List.pairwise_cons]
        refine ⟨fun x hx => ?_, hs2.2.1⟩
        have hxf := (mem x).mp (.inr hx)
        exact before_total (hf x hxf) hp hm (c.2 x hx) fun e => h (e ▸ hxf)
      · rw [List.singleton_append] at hy
        rcases List.mem_cons.mp hy with rfl | hy
        · exact lp x hx
        · exact hs2.2.2 x hx y hy
theorem srt_ok (hm : m = 1 ∨ m = 2) {l : List Pt} (hl : ∀ x ∈ l, OkP m x) : (∀ x, x ∈ srt l ↔ x ∈ l) ∧ Srt (srt l) := by
  have key : ∀ (l f : List Pt), (∀ x ∈ l, OkP m x) → (∀ x ∈ f, OkP m x) → Srt f → (∀ x, x ∈ l.foldl ins f ↔ x ∈ l ∨ x ∈ f) ∧ Srt (l.foldl ins f) := by
    intro l
    induction l with
    | nil => intro f _ _ hs; exact ⟨fun x => by simp, hs⟩
    | cons p l ih =>
      intro f hl hf hs
      have hp := hl p (by simp)
      obtain ⟨i1, i2⟩ := ins_ok hm hf hp hs
      obtain ⟨h1, h2⟩ := ih (ins f p) (fun x hx => hl x (by simp [hx])) (fun x hx => by
        rcases (i1 x).mp hx with rfl | hx
        · exact hp
        · exact hf x hx) i2
      refine ⟨fun x => ?_, h2⟩
      show x ∈ l.foldl ins (ins f p) ↔ _
      rw [h1 x, i1 x]
      simp only [List.mem_cons]
      grind
  have := key l [] hl (by simp) List.Pairwise.nil
  exact ⟨fun x => by rw [srt, this.1 x]; simp, this.2⟩
theorem ins_len {f : List Pt} {p : Pt} : (ins f p).length ≤ f.length + 1 := by
  unfold ins
  split
  · omega
  · simp only [List.length_append, List.length_take, List.length_drop, List.length_singleton]
    omega
theorem srt_len (l : List Pt) : (srt l).length ≤ l.length := by
  have key : ∀ (l f : List Pt), (l.foldl ins f).length ≤ l.length + f.length := by
    intro l
    induction l with
    | nil => intro f; simp
    | cons p l ih =>
      intro f
      have h1 := ih (ins f p)
      have h2 := ins_len (f := f) (p := p)
      simp only [List.foldl_cons, List.length_cons]
      omega
  have := key l []
  simpa [srt] using this
end K58
set_option Elab.async false
set_option linter.all false
set_option maxRecDepth 100000
set_option maxHeartbeats 4000000
/-! K58O: the plain law: hulls and their borders. -/
namespace K58
open PySem PySem.Spec PyProof.Rows L2 Ab
variable {m : Nat} {p r t : Pt}
def Prs (R : Pt → Pt → Prop) : List Pt → Prop
  | a :: b :: r => R a b ∧ Prs R (b :: r)
  | _ => True
theorem prs_app {R : Pt → Pt → Prop} : ∀ (X : List Pt) (z : Pt) (Y : List Pt), Prs R (X ++ [z]) → Prs R (z :: Y) → Prs R (X ++ z :: Y)
  | [], _, _, _, h => h
  | [a], z, Y, h1, h2 => ⟨h1.1, h2⟩
  | a :: b :: X, z, Y, h1, h2 => ⟨h1.1, prs_app (b :: X) z Y h1.2 h2⟩
theorem prs_rev {R S : Pt → Pt → Prop} (hRS : ∀ a b, S a b → R b a) : ∀ l : List Pt, Prs S l → Prs R l.reverse
  | [], _ => trivial
  | [_], _ => trivial
  | a :: b :: r, h => by
    have ih := prs_rev hRS (b :: r) h.2
    rw [List.reverse_cons] at ih
    rw [List.reverse_cons, List.reverse_cons, List.append_assoc]
    exact prs_app r.reverse b [a] ih ⟨hRS a b h.1, trivial⟩
theorem prs_imp {R S : Pt → Pt → Prop} (hRS : ∀ a b, S a b → R a b) : ∀ l : List Pt, Prs S l → Prs R l
  | [], _ => trivial
  | [_], _ => trivial
  | a :: b :: r, h => ⟨hRS a b h.1, prs_imp hRS (b :: r) h.2⟩
theorem prs_zip {R : Pt → Pt → Prop} : ∀ (r : List Pt) (a c : Pt), Prs R (a :: r ++ [c]) → ∀ z ∈ (a :: r).zip (r ++ [c]), R z.1 z.2
  | [], a, c, h, z, hz => by
    have e : z = (a, c) := by simpa using hz
    subst e
    exact h.1
  | b :: r, a, c, h, z, hz => by
    rw [List.cons_append, List.zip_cons_cons] at hz
    rcases List.mem_cons.mp hz with rfl | hz
    · exact h.1
    · exact prs_zip r b c h.2 z hz
theorem prs_ch {N e : Int} {T : List Pt} : ∀ s : List Pt, ChI N e T s → Prs (Ed N e T) s
  | [], _ => trivial
  | [_], _ => trivial
  | b :: a :: r, h => ⟨h.1, prs_ch (a :: r) h.2⟩
/-- corners about the points T -/
structure Hull (m : Nat) (T c : List Pt) : Prop where
  sub : ∀ x ∈ c, x ∈ T
  is : (∃ a, c = [a] ∧ ∀ t ∈ T, t = a) ∨ (∃ a z, c = [a, z] ∧ 0 < om NN a z ∧ ∀ t ∈ T, 0 ≤ om NN a t ∧ 0 ≤ om NN t z ∧ side a z t = 0) ∨
    (m = 2 ∧ 3 ≤ c.length ∧ c.length ≤ 1000 ∧ ∀ z ∈ c.zip (rot c), z.1 ≠ z.2 ∧ ∀ t ∈ T, 0 ≤ side z.1 z.2 t)
theorem om_ne {a b : Pt} (h : 0 < om NN a b) : a ≠ b := fun e => by
  subst e
  rw [om_self] at h
  omega
theorem chain_up : ∀ (f : Pt) (l : List Pt), chain true (f :: l) = chE 1 l [f] := fun f l => by
  have e : (fun (s : List Pt) p => p :: popS true s p) = fun s p => p :: popE 1 s p := funext fun s => funext fun p => by rw [popS_up]
  unfold chain chE
  rw [e]
  rfl
theorem chain_dn : ∀ (f : Pt) (l : List Pt), chain false (f :: l) = chE (-1) l [f] := fun f l => by
  have e : (fun (s : List Pt) p => p :: popS false s p) = fun s p => p :: popE (-1) s p := funext fun s => funext fun p => by rw [popS_dn]
  unfold chain chE
  rw [e]
  rfl
theorem chE_len (e : Int) : ∀ (l s : List Pt), (chE e l s).length ≤ l.length + s.length := by
  have pl : ∀ (s : List Pt) (p : Pt), (popE e s p).length ≤ s.length := by
    intro s p
    induction s with
    | nil => simp [popE]
    | cons b s ih =>
      cases s with
      | nil => simp [popE]
      | cons a r =>
        rw [popE]
        split
        · have := ih
          simp only [List.length_cons] at this ⊢
          omega
        · exact Nat.le_refl _
  intro l
  induction l with
  | nil => intro s; simp [chE]
  | cons p l ih =>
    intro s
    have h1 := ih (p :: popE e s p)
    have h2 := pl s p
    show (chE e l (p :: popE e s p)).length ≤ _
    simp only [List.length_cons] at h1 ⊢
    omega
theorem last_split : ∀ (Y : List Pt) (z f : Pt), (z :: Y).getLast? = some f → z ≠ f → ∃ Y', Y = Y' ++ [f]
  | [], z, f, h, hn => absurd (by simpa using h) hn
  | y :: Y, z, f, h, _ => by
    rw [List.getLast?_cons_cons] at h
    have hne : y :: Y ≠ [] := by simp
    refine ⟨(y :: Y).dropLast, ?_⟩
    have e := List.dropLast_concat_getLast hne
    rw [List.getLast?_eq_getLast hne] at h
    cases h
    exact e.symm
theorem around_hull {l : List Pt} (hl : ∀ x ∈ l, OkP 2 x) (hs : Srt l) (hne : l ≠ []) (hlen : l.length ≤ 400) : Hull 2 l (around l) := by
  unfold around
  match l, hl, hs, hne, hlen with
  | [a], _, _, _, _ => exact ⟨fun x hx => hx, .inl ⟨a, rfl, fun t ht => by simpa using ht⟩⟩
  | [a, z], _, hs, _, _ =>
    have h : 0 < om NN a z := by
      rw [Srt, List.pairwise_cons] at hs
      exact hs.1 z (by simp)
    refine ⟨fun x hx => hx, .inr (.inl ⟨a, z, rfl, h, fun t ht => ?_⟩)⟩
    have : t = a ∨ t = z := by simpa using ht
    rcases this with rfl | rfl
    · rw [om_self, side_self2]
      omega
    · rw [om_self, side_self]
      omega
  | f :: g :: h :: l, hl, hs, _, hlen =>
    have h3 : ¬ (f :: g :: h :: l).length < 3 := by
      simp only [List.length_cons]
      omega
    rw [if_neg h3, chain_up, chain_dn]
    have hs2 := hs
    rw [Srt, List.pairwise_cons] at hs2
    have q0 : ∀ t ∈ [f], 0 < t.1 := fun t ht => (hl t (by simp at ht; subst ht; simp)).nm.1
    have q1 : ∀ t ∈ g :: h :: l, 0 < t.1 := fun t ht => (hl t (List.mem_cons_of_mem _ ht)).nm.1
    have q2 : ∀ e, ChI NN e [f] [f] := fun e t ht => by
      have : t = f := by simpa using ht
      subst this
      rw [om_self]
      omega
    have q3 : ∀ t ∈ [f], ∀ x ∈ g :: h :: l, 0 < om NN t x := fun t ht x hx => by
      have : t = f := by simpa using ht
      subst this
      exact hs2.1 x hx
    obtain ⟨z, V, TU, u1, u2, u3, u4, u5, u6, u7⟩ := ch_fold (N := NN) 1 (g :: h :: l) [] f [] q0 q1 (fun _ hx => hx) (q2 1) (by simp) q3 hs2.2
    obtain ⟨z', Y, TA, a1, a2, a3, a4, a5, a6, a7⟩ := ch_fold (N := NN) (-1) (g :: h :: l) [] f [] q0 q1 (fun _ hx => hx) (q2 (-1)) (by simp) q3 hs2.2
    have ezz : z' = z := by
      rw [u7] at a7
      exact (Option.some.inj a7).symm
    subst ezz
    have mU : ∀ x, x ∈ z' :: TU ↔ x ∈ f :: g :: h :: l := fun x => by
      rw [u2 x]
      simp only [List.mem_cons, List.not_mem_nil]
      grind
    have mA : ∀ x, x ∈ z' :: TA ↔ x ∈ f :: g :: h :: l := fun x => by
      rw [a2 x]
      simp only [List.mem_cons, List.not_mem_nil]
      grind
    have hgU : g ∈ g :: h :: l := by simp
    have hzf : z' ≠ f := by
      intro e
      subst e
      -- g lies behind f, and before the last
      have g1 : 0 < om NN z' g := hs2.1 g hgU
      have gm : g ∈ z' :: TU := (mU g).mpr (by simp)
      rcases List.mem_cons.mp gm with e | gm
      · rw [e, om_self] at g1
        omega
      · have := u6 g gm
        rw [om_sw] at this
        omega
    have hz : z' ∈ f :: g :: h :: l := (mU z').mp (by simp)
    have fz : 0 < om NN f z' := by
      rcases List.mem_cons.mp hz with e | hz
      · exact absurd e hzf
      · exact hs2.1 z' hz
    obtain ⟨V', rfl⟩ := last_split V z' f (by rw [u5]; rfl) hzf
    obtain ⟨Y', rfl⟩ := last_split Y z' f (by rw [a5]; rfl) hzf
    rw [u1, a1]
    have eA : ((((z' :: (Y' ++ [f])).reverse.drop 1).dropLast).reverse) = Y' := by
      rw [List.reverse_cons, List.reverse_append]
      show (((Y'.reverse ++ [z'])).dropLast).reverse = Y'
      rw [List.dropLast_concat, List.reverse_reverse]
    have eU : (z' :: (V' ++ [f])).reverse = f :: (V'.reverse ++ [z']) := by
      rw [List.reverse_cons, List.reverse_append]
      rfl
    rw [eA]
    have pU := prs_ch _ u3
    have pA := prs_ch _ a3
    refine ⟨fun x hx => ?_, ?_⟩
    · rcases List.mem_append.mp hx with hx | hx
      · exact (mU x).mp (u4 x (List.mem_reverse.mp hx))
      · exact (mA x).mp (a4 x (by simp [hx]))
    · by_cases hVY : V' = [] ∧ Y' = []
      · obtain ⟨rfl, rfl⟩ := hVY
        refine .inr (.inl ⟨f, z', rfl, fz, fun t ht => ⟨?_, ?_, ?_⟩⟩)
        · rcases List.mem_cons.mp ht with rfl | ht
          · rw [om_self]
            omega
          · exact Int.le_of_lt (hs2.1 t ht)
        · rcases List.mem_cons.mp ((mU t).mpr ht) with rfl | ht
          · rw [om_self]
            omega
          · exact Int.le_of_lt (u6 t ht)
        · have k1 := pU.1.2 t ((mU t).mpr ht)
          have k2 := pA.1.2 t ((mA t).mpr ht)
          omega
      · refine .inr (.inr ⟨rfl, ?_, ?_, ?_⟩)
        · rw [eU]
          have : 0 < V'.length ∨ 0 < Y'.length := by
            rcases List.eq_nil_or_concat V' with e | ⟨_, _, e⟩
            · rcases List.eq_nil_or_concat Y' with e2 | ⟨_, _, e2⟩
              · exact absurd ⟨e, e2⟩ hVY
              · rw [e2]
                simp
            · rw [e]
              simp
          simp only [List.length_append, List.length_cons, List.length_reverse, List.length_nil]
          omega
        · have l1 := chE_len 1 (g :: h :: l) [f]
          have l2 := chE_len (-1) (g :: h :: l) [f]
          rw [u1] at l1
          rw [a1] at l2
          simp only [List.length_append, List.length_cons, List.length_reverse, List.length_nil] at l1 l2 hlen ⊢
          omega
        · rw [eU]
          have key : Prs (fun a b => a ≠ b ∧ ∀ t ∈ f :: g :: h :: l, 0 ≤ side a b t) (f :: (V'.reverse ++ [z'] ++ Y') ++ [f]) := by
            have e : f :: (V'.reverse ++ [z'] ++ Y') ++ [f] = (f :: V'.reverse) ++ z' :: (Y' ++ [f]) := by simp
            rw [e]
            refine prs_app _ _ _ ?_ ?_
            · have := prs_rev (R := fun a b => a ≠ b ∧ ∀ t ∈ f :: g :: h :: l, 0 ≤ side a b t) (fun a b hab => ⟨om_ne hab.1, fun t ht => by
                have := hab.2 t ((mU t).mpr ht)
                omega⟩) _ pU
              rw [eU] at this
              exact this
            · exact prs_imp (fun a b hab => ⟨fun e => om_ne hab.1 e.symm, fun t ht => by
                have := hab.2 t ((mA t).mpr ht)
                rw [side_sw2 b a t]
                omega⟩) _ pA
          have er : rot (f :: (V'.reverse ++ [z']) ++ Y') = (V'.reverse ++ [z'] ++ Y') ++ [f] := rfl
          rw [er]
          exact prs_zip _ _ _ key
end K58
set_option Elab.async false
set_option linter.all false
set_option maxRecDepth 100000
set_option maxHeartbeats 4000000
/-! K58Q: the plain law: the borders of a hull. -/
namespace K58
open PySem PySem.Spec PyProof.Rows L2 Ab
variable {m : Nat} {p r t : Pt}
theorem dot_mul (c : Int) : ∀ (xs ys : List Int), dot (xs.map fun x => c * x) ys = c * dot xs ys
  | [], _ => by simp [dot]
  | _ :: _, [] => by simp [dot]
  | x :: xs, y :: ys => by
    have ih := dot_mul c xs ys
    show c * x * y + dot (xs.map fun x => c * x) ys = c * (x * y + dot xs ys)
    rw [ih, Int.mul_add, Int.mul_assoc]
theorem val_mulP (c : Int) (p x : Pt) : val (mulP c p) x = c * val p x := by
  unfold val
  rw [show (mulP c p).2 = p.2.map fun x => c * x from rfl, dot_mul, Int.mul_add, show (mulP c p).1 = c * p.1 from rfl, Int.mul_assoc]
theorem val_low (hg : 0 < gcdN (p.1 :: p.2)) (x : Pt) : (gcdN (p.1 :: p.2) : Int) * val (low p) x = val p x := by
  rw [← val_mulP, low_back hg]
theorem low_le (hg : 0 < gcdN (p.1 :: p.2)) {x : Pt} (h : val p x ≤ 0) : val (low p) x ≤ 0 := by
  have e := val_low hg x
  rcases Int.lt_or_le 0 (val (low p) x) with q | q
  · have := Int.mul_pos (show (0 : Int) < (gcdN (p.1 :: p.2) : Int) by omega) q
    omega
  · exact q
theorem low_zero (hg : 0 < gcdN (p.1 :: p.2)) {x : Pt} (h : val p x = 0) : val (low p) x = 0 := by
  have e := val_low hg x
  rw [h] at e
  rcases Int.mul_eq_zero.mp e with q | q
  · omega
  · exact q
theorem val_line (h1 : p.2.length = 2) (h2 : r.2.length = 2) (h3 : t.2.length = 2) : val (lineP p r) t = - side p r t := by
  obtain ⟨q, l⟩ := p
  obtain ⟨k, s⟩ := r
  obtain ⟨u, v⟩ := t
  obtain ⟨a, b, rfl⟩ := len2 h1
  obtain ⟨c, d, rfl⟩ := len2 h2
  obtain ⟨e, f, rfl⟩ := len2 h3
  show (0 - (a * d - b * c)) * u + ((q * d - b * k) * e + ((0 - (q * c - a * k)) * f + 0)) = -(q * (c * f - d * e) - a * (k * f - d * u) + b * (k * e - c * u))
  grind
theorem om_diff (h : om NN p r ≠ 0) : p.1 * x0 r - x0 p * r.1 ≠ 0 ∨ p.1 * x1 r - x1 p * r.1 ≠ 0 := by
  by_cases h0 : p.1 * x0 r - x0 p * r.1 = 0
  · right
    intro h1
    apply h
    unfold om
    rw [h0, h1]
    rfl
  · exact .inl h0
theorem line_gcd (h : om NN p r ≠ 0) : 0 < gcdN ((lineP p r).1 :: (lineP p r).2) := by
  rcases om_diff h with q | q
  · exact gcd_pos_mem (x := 0 - (p.1 * x0 r - x0 p * r.1)) (by simp [lineP]) (by omega)
  · exact gcd_pos_mem (x := p.1 * x1 r - x1 p * r.1) (by simp [lineP]) q
theorem mul_ne {a b : Int} (h1 : a ≠ 0) (h2 : b ≠ 0) : a * b ≠ 0 := fun e => by
  rcases Int.mul_eq_zero.mp e with q | q
  · exact h1 q
  · exact h2 q
theorem found_gcd {c : List Pt} (hm : m = 1 ∨ m = 2) {T : List Pt} (hT : ∀ x ∈ T, OkP m x) (h : Hull m T c) : ∀ b ∈ found c, 0 < gcdN (b.1 :: b.2) := by
  have hc : ∀ x ∈ c, OkP m x := fun x hx => hT x (h.sub x hx)
  intro b hb
  rcases h.is with ⟨a, rfl, _⟩ | ⟨a, z, rfl, hz, _⟩ | ⟨hm2, h3, _, hd⟩
  · have ha := hc a (by simp)
    have hq := ha.nm.1
    rw [show found [a] = if a.2.length = 1 then endsP a a else ptB a from rfl] at hb
    split at hb
    · have : b = (x0 a, [0 - a.1]) ∨ b = (0 - x0 a, [a.1]) := by simpa [endsP] using hb
      rcases this with rfl | rfl
      · exact gcd_pos_mem (x := 0 - a.1) (by simp) (by omega)
      · exact gcd_pos_mem (x := a.1) (by simp) (by omega)
    · have : b = (x0 a, [0 - a.1, 0]) ∨ b = (0 - x0 a, [a.1, 0]) ∨ b = (x1 a, [0, 0 - a.1]) ∨ b = (0 - x1 a, [0, a.1]) := by simpa [ptB] using hb
      rcases this with rfl | rfl | rfl | rfl
      · exact gcd_pos_mem (x := 0 - a.1) (by simp) (by omega)
      · exact gcd_pos_mem (x := a.1) (by simp) (by omega)
      · exact gcd_pos_mem (x := 0 - a.1) (by simp) (by omega)
      · exact gcd_pos_mem (x := a.1) (by simp) (by omega)
  · have ha := hc a (by simp)
    have hz' := hc z (by simp)
    have qa := ha.nm.1
    have qz := hz'.nm.1
    rw [show found [a, z] = if a.2.length = 1 then endsP a z else [lineP a z, negP (lineP a z)] ++ strE a z from rfl] at hb
    split at hb
    · have : b = (x0 a, [0 - a.1]) ∨ b = (0 - x0 z, [z.1]) := by simpa [endsP] using hb
      rcases this with rfl | rfl
      · exact gcd_pos_mem (x := 0 - a.1) (by simp) (by omega)
      · exact gcd_pos_mem (x := z.1) (by simp) (by omega)
    · have hd := om_diff (p := a) (r := z) (by omega)
      have : b = lineP a z ∨ b = negP (lineP a z) ∨ b ∈ strE a z := by simpa [or_assoc] using hb
      rcases this with rfl | rfl | hb
      · exact line_gcd (by omega)
      · rcases hd with q | q
        · exact gcd_pos_mem (x := 0 - (0 - (a.1 * x0 z - x0 a * z.1))) (by simp [lineP, negP]) (by omega)
        · exact gcd_pos_mem (x := 0 - (a.1 * x1 z - x1 a * z.1)) (by simp [lineP, negP]) (by omega)
      · have : b = (strE a z).head (by simp [strE]) ∨ b = (strE a z).getLast (by simp [strE]) := by simpa [strE] using hb
        rcases this with rfl | rfl
        · rcases hd with q | q
          · exact gcd_pos_mem (x := 0 - (x0 z * a.1 - x0 a * z.1) * a.1) (by simp [strE]) (fun e => mul_ne (a := x0 z * a.1 - x0 a * z.1) (b := a.1) (by rw [Int.mul_comm (x0 z)]; exact q) (by omega) (by omega))
          · exact gcd_pos_mem (x := 0 - (x1 z * a.1 - x1 a * z.1) * a.1) (by simp [strE]) (fun e => mul_ne (a := x1 z * a.1 - x1 a * z.1) (b := a.1) (by rw [Int.mul_comm (x1 z)]; exact q) (by omega) (by omega))
        · rcases hd with q | q
          · exact gcd_pos_mem (x := (x0 z * a.1 - x0 a * z.1) * z.1) (by simp [strE]) (mul_ne (by rw [Int.mul_comm (x0 z)]; exact q) (by omega))
          · exact gcd_pos_mem (x := (x1 z * a.1 - x1 a * z.1) * z.1) (by simp [strE]) (mul_ne (by rw [Int.mul_comm (x1 z)]; exact q) (by omega))
  · subst hm2
    obtain ⟨a, u, v, w, rfl⟩ : ∃ a u v w, c = a :: u :: v :: w := by
      match c, h3 with
      | a :: u :: v :: w, _ => exact ⟨a, u, v, w, rfl⟩
    have ha : ¬ a.2.length = 1 := by
      have := (hc a (by simp)).len
      omega
    rw [show found (a :: u :: v :: w) = if a.2.length = 1 then endsP a ((a :: u :: v :: w).getLastD a) else ((a :: u :: v :: w).zip (rot (a :: u :: v :: w))).map fun z => lineP z.1 z.2 from rfl, if_neg ha] at hb
    obtain ⟨z, hz, rfl⟩ := List.mem_map.mp hb
    have mz := List.of_mem_zip hz
    exact line_gcd fun e => (hd z hz).1 (om_zero (hc _ mz.1) (hc _ (rot_mem mz.2)) hm e)
theorem hull_good {c : List Pt} (hm : m = 1 ∨ m = 2) {T : List Pt} (hT : ∀ x ∈ T, OkP m x) (h : Hull m T c) : GoodC c := by
  have hc : ∀ x ∈ c, OkP m x := fun x hx => hT x (h.sub x hx)
  refine ⟨?_, ?_, fun p hp => ⟨(hc p hp).pb, (hc p hp).nm.1⟩, ?_, found_gcd hm hT h⟩
  · rcases h.is with ⟨a, rfl, _⟩ | ⟨a, z, rfl, _⟩ | ⟨_, h3, _, _⟩
    · simp
    · simp
    · intro e
      subst e
      simp at h3
  · rcases h.is with ⟨a, rfl, _⟩ | ⟨a, z, rfl, _⟩ | ⟨_, h3, h4, _⟩
    · simp
    · simp
    · exact h4
  · rcases hm with rfl | rfl
    · exact .inl fun p hp => (hc p hp).len
    · exact .inr fun p hp => (hc p hp).len
theorem sq_nn (u : Int) : 0 ≤ u * u := by
  rcases Int.le_total 0 u with h | h
  · exact Int.mul_nonneg h h
  · rw [← Int.neg_mul_neg]
    exact Int.mul_nonneg (by omega) (by omega)
/-- data of a stretch -/
theorem on_line {N u v a b : Int} (h0 : 0 < N * u + v) (h1 : 0 ≤ N * a + b) (h2 : u * b = v * a) : 0 ≤ u * a + v * b := by
  have e : (u * a + v * b) * (N * u + v) = (u * u + v * v) * (N * a + b) := by grind
  refine nn_of h0 ?_
  rw [e]
  refine Int.mul_nonneg ?_ h1
  have k1 := sq_nn u
  have k2 := sq_nn v
  omega
theorem mul_zero_of {a b : Int} (h : a * b = 0) (ha : a ≠ 0) : b = 0 := (Int.mul_eq_zero.mp h).elim (fun e => absurd e ha) id
theorem mem_strE {a z b : Pt} (h : b ∈ strE a z) : b = ((x0 z * a.1 - x0 a * z.1) * x0 a + (x1 z * a.1 - x1 a * z.1) * x1 a, [0 - (x0 z * a.1 - x0 a * z.1) * a.1, 0 - (x1 z * a.1 - x1 a * z.1) * a.1]) ∨ b = (0 - ((x0 z * a.1 - x0 a * z.1) * x0 z + (x1 z * a.1 - x1 a * z.1) * x1 z), [(x0 z * a.1 - x0 a * z.1) * z.1, (x1 z * a.1 - x1 a * z.1) * z.1]) := by
  simpa [strE] using h
theorem val2 {q a b : Int} (h3 : t.2.length = 2) : val (q, [a, b]) t = q * t.1 + (a * x0 t + b * x1 t) := by
  obtain ⟨u, v⟩ := t
  obtain ⟨e, f, rfl⟩ := len2 h3
  show q * u + (a * e + (b * f + 0)) = q * u + (a * e + b * f)
  omega
theorem val1 {q a : Int} (h3 : t.2.length = 1) : val (q, [a]) t = q * t.1 + a * x0 t := by
  obtain ⟨u, v⟩ := t
  obtain ⟨e, rfl⟩ := len1 h3
  show q * u + (a * e + 0) = q * u + a * e
  omega
theorem x1_one (h : t.2.length = 1) : x1 t = 0 := by
  obtain ⟨u, v⟩ := t
  obtain ⟨e, rfl⟩ := len1 h
  rfl
theorem negP_val (h : t.2.length = 2) {q a b : Int} : val (negP (q, [a, b])) t = - val (q, [a, b]) t := by
  rw [show negP (q, [a, b]) = (0 - q, [0 - a, 0 - b]) from rfl, val2 h, val2 h]
  grind
/-- all the points lie in -/
theorem hull_in {c : List Pt} (hm : m = 1 ∨ m = 2) {T : List Pt} (hT : ∀ x ∈ T, OkP m x) (h : Hull m T c) : ∀ t ∈ T, ∀ b ∈ found c, val b t ≤ 0 := by
  have hc : ∀ x ∈ c, OkP m x := fun x hx => hT x (h.sub x hx)
  intro t ht b hb
  have htk := hT t ht
  have tl := htk.len
  rcases h.is with ⟨a, rfl, hal⟩ | ⟨a, z, rfl, hz, hal⟩ | ⟨hm2, h3, _, hd⟩
  · obtain rfl := hal t ht
    rw [show found [t] = if t.2.length = 1 then endsP t t else ptB t from rfl] at hb
    split at hb
    · next h1 =>
      have : b = (x0 t, [0 - t.1]) ∨ b = (0 - x0 t, [t.1]) := by simpa [endsP] using hb
      rcases this with rfl | rfl <;> (rw [val1 h1]; grind)
    · next h1 =>
      have h2 : t.2.length = 2 := by omega
      have : b = (x0 t, [0 - t.1, 0]) ∨ b = (0 - x0 t, [t.1, 0]) ∨ b = (x1 t, [0, 0 - t.1]) ∨ b = (0 - x1 t, [0, t.1]) := by simpa [ptB] using hb
      rcases this with rfl | rfl | rfl | rfl <;> (rw [val2 h2]; grind)
  · obtain ⟨h1, h2, h3⟩ := hal t ht
    have ha := hc a (by simp)
    have hz' := hc z (by simp)
    have da := d1_small ha.pb htk.pb
    have dz := d1_small htk.pb hz'.pb
    rw [show found [a, z] = if a.2.length = 1 then endsP a z else [lineP a z, negP (lineP a z)] ++ strE a z from rfl] at hb
    split at hb
    · next l1 =>
      have l2 : t.2.length = 1 := by rw [tl, ← ha.len, l1]
      have l3 : z.2.length = 1 := by rw [hz'.len, ← ha.len, l1]
      unfold om at h1 h2
      rw [x1_one l1, x1_one l2] at h1
      rw [x1_one l2, x1_one l3] at h2
      have n1 : 0 ≤ a.1 * x0 t - x0 a * t.1 := by
        refine nn_of (u := NN) (by decide) ?_
        rw [Int.mul_comm]
        omega
      have n2 : 0 ≤ t.1 * x0 z - x0 t * z.1 := by
        refine nn_of (u := NN) (by decide) ?_
        rw [Int.mul_comm]
        omega
      have : b = (x0 a, [0 - a.1]) ∨ b = (0 - x0 z, [z.1]) := by simpa [endsP] using hb
      rcases this with rfl | rfl <;> (rw [val1 l2]; grind)
    · next l1 =>
      have m2 : m = 2 := by
        have := ha.len
        omega
      subst m2
      have hl : val (lineP a z) t = 0 := by rw [val_line ha.len hz'.len tl]; omega
      have : b = lineP a z ∨ b = negP (lineP a z) ∨ b ∈ strE a z := by simpa [or_assoc] using hb
      rcases this with rfl | rfl | hb
      · omega
      · rw [show lineP a z = (0 - (x0 a * x1 z - x1 a * x0 z), [a.1 * x1 z - x1 a * z.1, 0 - (a.1 * x0 z - x0 a * z.1)]) from rfl] at hl ⊢
        rw [negP_val tl]
        omega
      · rcases mem_strE hb with rfl | rfl
        · rw [val2 tl]
          have := on_line (N := NN) (u := a.1 * x0 z - x0 a * z.1) (v := a.1 * x1 z - x1 a * z.1) (a := a.1 * x0 t - x0 a * t.1) (b := a.1 * x1 t - x1 a * t.1) hz h1 (by
            unfold side at h3
            grind)
          grind
        · rw [val2 tl]
          have := on_line (N := NN) (u := a.1 * x0 z - x0 a * z.1) (v := a.1 * x1 z - x1 a * z.1) (a := t.1 * x0 z - x0 t * z.1) (b := t.1 * x1 z - x1 t * z.1) hz h2 (by
            unfold side at h3
            grind)
          grind
  · subst hm2
    obtain ⟨a, u, v, w, rfl⟩ : ∃ a u v w, c = a :: u :: v :: w := by
      match c, h3 with
      | a :: u :: v :: w, _ => exact ⟨a, u, v, w, rfl⟩
    have ha : ¬ a.2.length = 1 := by
      have := (hc a (by simp)).len
      omega
    rw [show found (a :: u :: v :: w) = if a.2.length = 1 then endsP a ((a :: u :: v :: w).getLastD a) else ((a :: u :: v :: w).zip (rot (a :: u :: v :: w))).map fun z => lineP z.1 z.2 from rfl, if_neg ha] at hb
    obtain ⟨z, hz, rfl⟩ := List.mem_map.mp hb
    have mz := List.of_mem_zip hz
    rw [val_line (hc _ mz.1).len (hc _ (rot_mem mz.2)).len tl]
    have := (hd z hz).2 t ht
    omega
theorem zip_first : ∀ {l k : List Pt} {x : Pt}, x ∈ l → l.length = k.length → ∃ y, (x, y) ∈ l.zip k
  | a :: l, b :: k, x, h, e => by
    rcases List.mem_cons.mp h with rfl | h
    · exact ⟨b, by simp⟩
    · obtain ⟨y, hy⟩ := zip_first h (Nat.succ.inj e)
      exact ⟨y, by simp [hy]⟩
/-- no corner lies inside -/
theorem hull_out {c : List Pt} (hm : m = 1 ∨ m = 2) {T : List Pt} (hT : ∀ x ∈ T, OkP m x) (h : Hull m T c) : ∀ t ∈ c, ∃ b ∈ found c, val b t = 0 := by
  have hc : ∀ x ∈ c, OkP m x := fun x hx => hT x (h.sub x hx)
  intro t ht
  have htk := hc t ht
  have tl := htk.len
  rcases h.is with ⟨a, rfl, hal⟩ | ⟨a, z, rfl, hz, hal⟩ | ⟨hm2, h3, _, hd⟩
  · obtain rfl : t = a := by simpa using ht
    rw [show found [t] = if t.2.length = 1 then endsP t t else ptB t from rfl]
    split
    · next h1 => exact ⟨(x0 t, [0 - t.1]), by simp [endsP], by rw [val1 h1]; grind⟩
    · next h1 => exact ⟨(x0 t, [0 - t.1, 0]), by simp [ptB], by rw [val2 (by omega)]; grind⟩
  · rw [show found [a, z] = if a.2.length = 1 then endsP a z else [lineP a z, negP (lineP a z)] ++ strE a z from rfl]
    have ha := hc a (by simp)
    have hz' := hc z (by simp)
    have : t = a ∨ t = z := by simpa using ht
    split
    · next h1 =>
      have l1 : t.2.length = 1 := by rw [tl, ← ha.len, h1]
      rcases this with rfl | rfl
      · exact ⟨(x0 t, [0 - t.1]), by simp [endsP], by rw [val1 l1]; grind⟩
      · exact ⟨(0 - x0 t, [t.1]), by simp [endsP], by rw [val1 l1]; grind⟩
    · next h1 =>
      have m2 : m = 2 := by
        have := ha.len
        omega
      subst m2
      refine ⟨lineP a z, by simp, ?_⟩
      rw [val_line ha.len hz'.len tl]
      rcases this with rfl | rfl
      · rw [side_self2]; rfl
      · rw [side_self]; rfl
  · subst hm2
    obtain ⟨a, u, v, w, rfl⟩ : ∃ a u v w, c = a :: u :: v :: w := by
      match c, h3 with
      | a :: u :: v :: w, _ => exact ⟨a, u, v, w, rfl⟩
    have ha : ¬ a.2.length = 1 := by
      have := (hc a (by simp)).len
      omega
    rw [show found (a :: u :: v :: w) = if a.2.length = 1 then endsP a ((a :: u :: v :: w).getLastD a) else ((a :: u :: v :: w).zip (rot (a :: u :: v :: w))).map fun z => lineP z.1 z.2 from rfl, if_neg ha]
    obtain ⟨y, hy⟩ := zip_first (k := rot (a :: u :: v :: w)) ht (by simp [rot])
    have mz := List.of_mem_zip hy
    refine ⟨lineP t y, List.mem_map.mpr ⟨(t, y), hy, rfl⟩, ?_⟩
    rw [val_line tl (hc _ (rot_mem mz.2)).len tl, side_self2]
    rfl
theorem brd_in {c : List Pt} (hm : m = 1 ∨ m = 2) {T : List Pt} (hT : ∀ x ∈ T, OkP m x) (h : Hull m T c) {t : Pt} (ht : t ∈ T) : ((brd c).all fun p => decide (val p t ≤ 0)) = true := by
  rw [List.all_eq_true]
  intro b hb
  obtain ⟨f, hf, rfl⟩ := List.mem_map.mp hb
  exact decide_eq_true (low_le (found_gcd hm hT h f hf) (hull_in hm hT h t ht f hf))
theorem brd_out {c : List Pt} (hm : m = 1 ∨ m = 2) {T : List Pt} (hT : ∀ x ∈ T, OkP m x) (h : Hull m T c) {t : Pt} (ht : t ∈ c) : ((brd c).all fun p => decide (val p t < 0)) = false := by
  obtain ⟨f, hf, hv⟩ := hull_out hm hT h t ht
  have := low_zero (found_gcd hm hT h f hf) hv
  cases hb : ((brd c).all fun p => decide (val p t < 0)) with
  | false => rfl
  | true =>
    rw [List.all_eq_true] at hb
    have := of_decide_eq_true (hb (low f) (List.mem_map.mpr ⟨f, hf, rfl⟩))
    omega
end K58
set_option Elab.async false
set_option linter.all false
set_option maxRecDepth 100000
set_option maxHeartbeats 4000000
/-! K58P3: what the readings say: is_in, is_inner, and the law's own helpers. -/
namespace K58
open PySem PySem.Spec PyProof.Rows L2 Ab
local macro_rules | `(tactic| walk_at "sz") => `(tactic| repeat (first | (with_reducible exact Lb.mono (by assumption) (by decide)) | (with_reducible exact lb_lit (by decide +kernel)) | (with_reducible refine lb_sub ?_ ?_) | (with_reducible refine lb_add ?_ ?_) | (with_reducible refine lb_half ?_ ?_) | (with_reducible refine lb_neg ?_)))
local macro_rules | `(tactic| walk_at "go1") => `(tactic| ((conv => whnf); refine and2 ?x ?_; (case x => (first | exact rfl | exact ble5 rfl | (refine cmul (j := 5000) (k := 5000) ?m1 ?m2; (case m1 => walk_at "sz"); (case m2 => walk_at "sz"))))))
local macro_rules | `(tactic| walk_at "go") => `(tactic| repeat (walk_at "go1"))
local macro_rules | `(tactic| walk_at "fin") => `(tactic| ((conv => whnf); assumption))
local macro_rules | `(tactic| walk_at "wh") => `(tactic| (conv => whnf))
section
variable {ρ : Ab.Env} {n : Nat} {A : AEnds} {Q : AV → Nat → Prop} {QL : List AV → Nat → Prop} {QB : Bool → Nat → Prop} {t u : AS} {c : AT} {aa ab : AE} {as' : AA} {ar : AR2} {arn : ARn} {R : List D → Nat → Prop}
theorem rs_it (h : aa ρ n fun av n1 => match av with
  | .st (.lst ds) => R ds n1
  | .st (.tup ds) => R ds n1
  | .fr ds => R ds n1
  | _ => False) : aIt aa ρ n R := h
theorem rv_pen {i : Nat} (h : ρ[i]? = some .pen) (k : Q .pn n) : aVar i ρ n Q := by
  unfold aVar
  rw [h]
  exact k
theorem rs_br (h : c ρ n fun b n1 => br b (aa ρ n1 Q) (ab ρ n1 Q)) : aIf c aa ab ρ n Q := h
theorem rs_par {i j : Nat} (h : as' ρ n fun avs n1 => match avs with
  | [.st d, .st e] => A.nx ((ρ.set i (.dat d)).set j (.dat e)) n1
  | [.fr ds, .st e] => A.nx ((ρ.set i (.dat (.lst ds))).set j (.dat e)) n1
  | [.st d, .fr es] => A.nx ((ρ.set i (.dat d)).set j (.dat (.lst es))) n1
  | [.fr ds, .fr es] => A.nx ((ρ.set i (.dat (.lst ds))).set j (.dat (.lst es))) n1
  | _ => False) : aPar i j as' A ρ n := h
theorem abs_nat (i : Int) : (if i < 0 then -i else i) = (i.natAbs : Int) := by split <;> omega
theorem rs_absI {x : Int} (k : Q (.st (.int (x.natAbs : Int))) n) : arAbs [.st (.int x)] n Q := by
  rw [← abs_nat] at k
  exact k
theorem rs_intI {x : Int} (k : Q (.st (.int x)) n) : arInt [.st (.int x)] n Q := k
theorem rs_lenL {ds : List D} (k : Q (.st (.int ds.length)) n) : arLen [.st (.lst ds)] n Q := k
theorem rs_brk (h : A.bk ρ n) : aBreak A ρ n := h
theorem rs_next (h : A.nx ρ n) : aNext A ρ n := h
theorem rs_neg {i : Int} (k : Q (.st (.int (-i))) n) : aUn arNeg (aC (.int i)) ρ n Q := k
theorem rs_lit {d : D} (k : Q (.st d) n) : aC d ρ n Q := k
theorem rs_mulI {i j : Int} (h : CMulW i j) (k : Q (.st (.int (i * j))) n) : arMul (.st (.int i)) (.st (.int j)) n Q := ⟨h, k⟩
theorem rs_divI {i j : Int} (h : CDivW i j) (k : Q (.st (.int (i / j))) n) : arDiv (.st (.int i)) (.st (.int j)) n Q := ⟨h, k⟩
theorem rs_addI {i j : Int} (k : Q (.st (.int (i + j))) n) : arAdd (.st (.int i)) (.st (.int j)) n Q := k
theorem rs_modI {i j : Int} (h : 0 < j) (k : Q (.st (.int (i % j))) n) : arMod (.st (.int i)) (.st (.int j)) n Q := ⟨h, k⟩
theorem rs_ltI {i j : Int} (k : Q (.st (.bl (decide (i < j)))) n) : arLt (.st (.int i)) (.st (.int j)) n Q := k
theorem rs_leI {i j : Int} (k : Q (.st (.bl (decide (i ≤ j)))) n) : arLe (.st (.int i)) (.st (.int j)) n Q := k
theorem rs_gtI {i j : Int} (k : Q (.st (.bl (decide (j < i)))) n) : arGt (.st (.int i)) (.st (.int j)) n Q := k
theorem rs_geI {i j : Int} (k : Q (.st (.bl (decide (j ≤ i)))) n) : arGe (.st (.int i)) (.st (.int j)) n Q := k
theorem ne_int {i j : Int} (k : Q (.st (.bl (!decide (i = j)))) n) : arEqD true (.st (.int i)) (.st (.int j)) n Q := ⟨rfl, rfl, rfl, rfl, k⟩
theorem br_not {p : Prop} [Decidable p] {A B : Prop} (h1 : ¬ p → A) (h2 : p → B) : br (!decide p) A B := ⟨fun h => h1 (of_decide_eq_false (by simpa using h)), fun h => h2 (of_decide_eq_true (by simpa using h))⟩
theorem rs_tupC {ds : List D} (k : Q (.st (.tup ds)) n) : arTuple [.fr ds] n Q := k
theorem rs_tupT {ds : List D} (k : Q (.st (.tup ds)) n) : arTuple [.st (.tup ds)] n Q := k
theorem rs_tupL {ds : List D} (k : Q (.st (.tup ds)) n) : arTuple [.st (.lst ds)] n Q := k
end
section
variable (avs : List AV) (n : Nat) (AQ : AV → Nat → Prop)
theorem brd_pb {l : List Pt} (hg : GoodC l) : ∀ p ∈ brd l, PB 2000 p ∧ p.2.length ≤ 2 := by
  intro p hp
  obtain ⟨f, hf, rfl⟩ := List.mem_map.mp hp
  have := found_pb hg.2.2.1 hg.2.2.2.1 f hf
  exact ⟨low_pb this.1, by rw [low_len]; exact this.2⟩
theorem brd_len {l : List Pt} (hg : GoodC l) : (brd l).length ≤ 2000 := by
  unfold brd
  rw [List.length_map]
  exact found_len hg.2.1
theorem plain_is_in (h : asp_is_in avs n AQ) : as_is_in (E AQ) (startA 3 avs) n := by
  obtain ⟨b, l, x, rfl, hg, hx, q⟩ := h
  unfold as_is_in
  refine rs_ret (rs_cb (rs_cons ?_))
  refine lc_run ((brd l).map ptD) ((brd l).map fun p => .bl (decide (val p x ≤ 0))) (fun R r => ?_) rfl ?_ ?_ ?_ ?_
  · exact rs_it (rs_call (rs_cons (rv_var rfl (rs_nil ⟨b, l, rfl, hg, r⟩))))
  · rw [List.length_map]
    have := brd_len hg
    omega
  · rw [List.length_map, List.length_map]
  · intro i d e hd he k k2 hk
    rw [List.getElem?_map] at hd he
    cases hi : (brd l)[i]? with
    | none =>
      rw [hi] at hd
      cases hd
    | some p =>
      rw [hi] at hd he
      cases hd
      cases he
      have hp := brd_pb hg p (List.mem_of_getElem? hi)
      refine br_tt (rs_op (rs_call (rs_cons (rv_var rfl (rs_cons (rv_var rfl (rs_nil ⟨p, x, rfl, hp.1, hx, hp.2, ?_⟩)))))))
      exact rs_lit (rs_leI (hk _ rfl))
  · refine rs_nil ?_
    have e : ((brd l).map fun p => D.bl (decide (val p x ≤ 0))) = ((brd l).map fun p => decide (val p x ≤ 0)).map D.bl := by rw [List.map_map]; rfl
    rw [e]
    show (match boolsD (((brd l).map fun p => decide (val p x ≤ 0)).map D.bl) with
      | some bs => _
      | none => False)
    rw [boolsD_map]
    have e2 : ((brd l).map fun p => decide (val p x ≤ 0)).all id = (brd l).all fun p => decide (val p x ≤ 0) := by rw [List.all_map]; rfl
    show AQ (.st (.bl (((brd l).map fun p => decide (val p x ≤ 0)).all id))) n
    rw [e2]
    exact q
theorem plain_is_inner (h : asp_is_inner avs n AQ) : as_is_inner (E AQ) (startA 3 avs) n := by
  obtain ⟨b, l, x, rfl, hg, hx, q⟩ := h
  unfold as_is_inner
  refine rs_ret (rs_cb (rs_cons ?_))
  refine lc_run ((brd l).map ptD) ((brd l).map fun p => .bl (decide (val p x < 0))) (fun R r => ?_) rfl ?_ ?_ ?_ ?_
  · exact rs_it (rs_call (rs_cons (rv_var rfl (rs_nil ⟨b, l, rfl, hg, r⟩))))
  · rw [List.length_map]
    have := brd_len hg
    omega
  · rw [List.length_map, List.length_map]
  · intro i d e hd he k k2 hk
    rw [List.getElem?_map] at hd he
    cases hi : (brd l)[i]? with
    | none =>
      rw [hi] at hd
      cases hd
    | some p =>
      rw [hi] at hd he
      cases hd
      cases he
      have hp := brd_pb hg p (List.mem_of_getElem? hi)
      refine br_tt (rs_op (rs_call (rs_cons (rv_var rfl (rs_cons (rv_var rfl (rs_nil ⟨p, x, rfl, hp.1, hx, hp.2, ?_⟩)))))))
      exact rs_lit (rs_ltI (hk _ rfl))
  · refine rs_nil ?_
    have e : ((brd l).map fun p => D.bl (decide (val p x < 0))) = ((brd l).map fun p => decide (val p x < 0)).map D.bl := by rw [List.map_map]; rfl
    rw [e]
    show (match boolsD (((brd l).map fun p => decide (val p x < 0)).map D.bl) with
      | some bs => _
      | none => False)
    rw [boolsD_map]
    have e2 : ((brd l).map fun p => decide (val p x < 0)).all id = (brd l).all fun p => decide (val p x < 0) := by rw [List.all_map]; rfl
    show AQ (.st (.bl (((brd l).map fun p => decide (val p x < 0)).all id))) n
    rw [e2]
    exact q
theorem plain__law_pick (h : asp__law_pick avs n AQ) : as__law_pick (E AQ) (startA 2 avs) n := by
  obtain ⟨ds, rfl, hne, hl, hn, q⟩ := h
  unfold as__law_pick
  refine rs_ret (rs_op (rv_var rfl (rs_call (rs_cons (rv_pen rfl (rs_cons (rs_cb (rs_cons (rv_var rfl (rs_nil ?_)))))))))) 
  refine rs_lenL (rs_nil ?_)
  refine ⟨ds.length, rfl, ?_, hn, fun r h0 h1 => ?_⟩
  · exact Lb.mono (j := 10) (show ds.length < 2 ^ 10 by omega) (by decide)
  · have hp : 0 < ds.length := List.length_pos_iff.mpr hne
    have hr : r.toNat < ds.length := by omega
    have e : r = (r.toNat : Int) := by omega
    have hi : atI ds r = some ds[r.toNat] := by
      exact (congrArg (atI ds) e).trans (atI_nat (List.getElem?_eq_getElem hr))
    show (match atI ds r with
      | some d => _
      | none => False)
    rw [hi]
    exact q _ (List.getElem_mem hr)
theorem plain__law_p_value (h : asp__law_p_value avs n AQ) : as__law_p_value (E AQ) (startA 4 avs) n := plain_value avs n AQ h
/-! Euclid's laps -/
theorem euclid_end {a b P i : Nat} (h1 : a * b * 2 ^ i < 2 ^ P) (h2 : b ≤ a) (h : P ≤ i) : b = 0 := by
  rcases Nat.eq_zero_or_pos b with h0 | h0
  · exact h0
  · have : 2 ^ P ≤ 2 ^ i := Nat.pow_le_pow_right (by decide) h
    have m1 : 1 ≤ a * b := Nat.mul_pos (by omega) h0
    have m2 : 1 * 2 ^ i ≤ a * b * 2 ^ i := Nat.mul_le_mul_right _ m1
    omega
theorem euclid_step {a b P i : Nat} (h1 : a * b * 2 ^ i < 2 ^ P) (h2 : b ≤ a) (hb : 0 < b) : b * (a % b) * 2 ^ (i + 1) < 2 ^ P := by
  have h3 : 2 * (a % b) ≤ a := by
    have := Nat.mod_lt a hb
    have e := Nat.div_add_mod a b
    have : 1 ≤ a / b := Nat.div_pos h2 hb
    have : b * 1 ≤ b * (a / b) := Nat.mul_le_mul_left _ this
    omega
  have h4 : b * (a % b) * 2 ^ (i + 1) ≤ a * b * 2 ^ i := by
    have e : b * (a % b) * 2 ^ (i + 1) = b * (2 * (a % b)) * 2 ^ i := by
      rw [Nat.pow_succ]
      generalize 2 ^ i = z
      grind
    rw [e, Nat.mul_comm a b]
    exact Nat.mul_le_mul_right _ (Nat.mul_le_mul_left _ h3)
  omega
theorem plain__law_p_gcd (h : asp__law_p_gcd avs n AQ) : as__law_p_gcd (E AQ) (startA 3 avs) n := by
  obtain ⟨x, y, rfl, hx, hy, q⟩ := h
  unfold as__law_p_gcd
  refine rs_seq (rs_par (rs_cons (rs_cb (rs_cons (rv_var rfl (rs_nil (rs_absI (rs_cons (rs_cb (rs_cons (rv_var rfl (rs_nil (rs_absI (rs_nil ?_))))))))))))))
  dsimp only
  refine rs_seq ?_
  refine for_run ((List.range 3000).map fun (i : Nat) => D.int (0 + (i : Int))) (fun i ρ => ∃ (a b : Nat) (s : Sl), ρ = [.dat (.int a), .dat (.int b), s] ∧ Nat.gcd a b = Nat.gcd x.natAbs y.natAbs ∧ (i = 0 ∨ b ≤ a) ∧ (i = 0 → a * b < 2 ^ 2800) ∧ a * b * 2 ^ i < 2 ^ 2802) (fun R r => ⟨by decide, by decide, r⟩) ⟨_, _, .un, rfl, rfl, .inl rfl, fun _ => ?_, ?_⟩ ?_ ?_
  · have h2 : Lb 2800 (x * y) := hx.mul hy
    unfold Lb at h2
    rw [Int.natAbs_mul] at h2
    exact h2
  · rw [Nat.pow_zero, Nat.mul_one]
    have h1 : Lb 2800 (x * y) := hx.mul hy
    have h2 := h1.mono (show 2800 ≤ 2802 by decide)
    unfold Lb at h2
    rw [Int.natAbs_mul] at h2
    exact h2
  · rintro i d ρ' hd ⟨a, b, s, rfl, hg, hba, hz, hm⟩
    rw [List.getElem?_map] at hd
    refine rs_seq (rs_if (rs_test (rs_op (rv_var rfl (rs_lit (eq_int (br_beq (fun e => ?_) (fun e => ?_))))))))
    · refine rs_brk ?_
      have hb : b = 0 := by omega
      subst hb
      rw [Nat.gcd_zero_right] at hg
      subst hg
      exact q
    · refine rs_next ?_
      have hb : 0 < b := by omega
      show (0 : Int) < (b : Int) ∧ _
      refine ⟨by omega, rfl, b, a % b, .dat d, ?_, ?_, .inr (Nat.le_of_lt (Nat.mod_lt _ hb)), (fun e => absurd e (Nat.succ_ne_zero _)), ?_⟩
      · rfl
      · rw [← hg, Nat.gcd_comm b, ← Nat.gcd_rec, Nat.gcd_comm]
      · rcases Nat.lt_or_ge a b with hlt | hge
        · have hi : i = 0 := by omega
          subst hi
          rw [Nat.mod_eq_of_lt hlt]
          have h1 := hz rfl
          rw [Nat.mul_comm b a, Nat.zero_add]
          have e : 2 ^ 2802 = 2 ^ 2800 * 2 ^ 2 := by rw [← Nat.pow_add]
          rw [e]
          omega
        · exact euclid_step hm hge hb
  · rintro ρ' ⟨a, b, s, rfl, hg, hba, hz, hm⟩
    rw [List.length_map, List.length_range] at hba hm
    have hb : b = 0 := euclid_end hm (by omega) (by decide)
    subst hb
    rw [Nat.gcd_zero_right] at hg
    subst hg
    exact q
end
end K58
set_option Elab.async false
set_option linter.all false
set_option maxRecDepth 100000
set_option maxHeartbeats 4000000
/-! K58P4: what the readings say: p_point, b_lowest, b_through, before, sorted, side. -/
namespace K58
open PySem PySem.Spec PyProof.Rows L2 Ab
local macro_rules | `(tactic| walk_at "sz") => `(tactic| repeat (first | (with_reducible exact Lb.mono (by assumption) (by decide)) | (with_reducible exact lb_lit (by decide +kernel)) | (with_reducible refine lb_sub ?_ ?_) | (with_reducible refine lb_add ?_ ?_) | (with_reducible refine lb_half ?_ ?_) | (with_reducible refine lb_neg ?_)))
local macro_rules | `(tactic| walk_at "go1") => `(tactic| ((conv => whnf); refine and2 ?x ?_; (case x => (first | exact rfl | exact ble5 rfl | (refine cmul (j := 5000) (k := 5000) ?m1 ?m2; (case m1 => walk_at "sz"); (case m2 => walk_at "sz"))))))
local macro_rules | `(tactic| walk_at "go") => `(tactic| repeat (walk_at "go1"))
local macro_rules | `(tactic| walk_at "fin") => `(tactic| ((conv => whnf); assumption))
local macro_rules | `(tactic| walk_at "wh") => `(tactic| (conv => whnf))
theorem rv_chk {i : Nat} {ρ : Ab.Env} {n : Nat} {Q : AV → Nat → Prop} (h : aVar i ρ n Q) : aVar i ρ n Q := h
local macro_rules | `(tactic| walk_at "st") => `(tactic| repeat (first
  | (with_reducible refine rs_seq ?_) | (with_reducible refine rs_set ?_) | (with_reducible refine rs_par ?_) | (with_reducible refine rs_if ?_) | (with_reducible refine rs_br ?_) | (with_reducible refine rs_test ?_)
  | (with_reducible refine rs_op ?_) | (with_reducible refine rs_cb ?_) | (with_reducible refine rs_cons ?_) | (with_reducible refine rs_nil ?_) | (with_reducible refine rs_lit ?_)
  | ((with_reducible refine rv_chk ?_); refine rv_var rfl ?_) | ((with_reducible refine rv_chk ?_); refine rv_pen rfl ?_)
  | (with_reducible refine rs_ret ?_) | (with_reducible refine rs_tup ?_) | (with_reducible refine rs_lst ?_) | (with_reducible refine rs_call ?_) | (with_reducible refine rs_asg ?_) | (with_reducible refine rs_it ?_)
  | (with_reducible refine rs_next ?_) | (with_reducible refine rs_brk ?_)
  | (with_reducible refine rs_subI ?_) | (with_reducible refine rs_addI ?_) | (with_reducible refine rs_ltI ?_) | (with_reducible refine rs_leI ?_) | (with_reducible refine rs_gtI ?_) | (with_reducible refine rs_geI ?_)
  | (with_reducible refine rs_absI ?_) | (with_reducible refine rs_intI ?_) | (with_reducible refine rs_lenL ?_) | (with_reducible refine rs_tupC ?_) | (with_reducible refine rs_tupT ?_) | (with_reducible refine rs_tupL ?_)
  | (with_reducible refine eq_int ?_) | (with_reducible refine ne_int ?_) | (with_reducible refine ix_pt0 ?_) | (with_reducible refine ix_pt1 ?_) | (with_reducible refine len_seqP ?_) | (with_reducible refine len_tupI ?_)
  | dsimp only))
variable (avs : List AV) (n : Nat) (AQ : AV → Nat → Prop)
theorem gcd_lb {k : Nat} {g : Nat} {x : Int} (hg : Lb k (g : Int)) (h : 0 < g) : Lb k (Nat.gcd g x.natAbs : Int) := by
  have h1 : Nat.gcd g x.natAbs ≤ g := Nat.gcd_le_left _ h
  unfold Lb at *
  omega
/-- x // g of each -/
theorem divs_run {i j : Nat} {ρ : Ab.Env} {Q : AV → Nat → Prop} {n : Nat} {k g : Nat} {ns : List Int} {src : AI} {wipe : List Nat} (hsrc : ∀ R : List D → Nat → Prop, R (ns.map D.int) n → src ρ n R) (hw : noOwn ρ wipe = true) (hl : ns.length ≤ 1000) (hg : 0 < g) (hk : k ≤ 9000) (h0 : 0 < k) (hb : Lb k (g : Int))
    (hi : ∀ d, (wipeA ρ wipe).set i (.dat d) = (wipeA ρ wipe).set i (.dat d)) (hvi : ∀ d, ((wipeA ρ wipe).set i (.dat d))[i]? = some (.dat d)) (hvj : ∀ d, ((wipeA ρ wipe).set i (.dat d))[j]? = some (.dat (.int g)))
    (q : Q (.fr ((ns.map fun x => x / (g : Int)).map D.int)) n) : aLc src (aGn i) aYes (aOp arDiv (aVar i) (aVar j)) wipe ρ n Q := by
  refine lc_run (ns.map D.int) (ns.map fun x => D.int (x / (g : Int))) hsrc hw ?_ ?_ ?_ ?_
  · rw [List.length_map]
    omega
  · rw [List.length_map, List.length_map]
  · intro z d e hd he k k2 hk
    rw [List.getElem?_map] at hd he
    cases hz : ns[z]? with
    | none =>
      rw [hz] at hd
      cases hd
    | some x =>
      rw [hz] at hd he
      cases hd
      cases he
      refine br_tt (rs_op (rv_var (hvi _) (rv_var (hvj _) (rs_divI ?_ (hk _ rfl)))))
      exact wide_div (by omega) hb h0 (by omega)
  · have e : (ns.map fun x => D.int (x / (g : Int))) = (ns.map fun x => x / (g : Int)).map D.int := by rw [List.map_map]; rfl
    rw [e]
    exact q
theorem plain__law_p_point (h : asp__law_p_point avs n AQ) : as__law_p_point (E AQ) (startA 4 avs) n := by
  obtain ⟨q, ns, rfl, hq, hb, hbs, hl, k⟩ := h
  unfold as__law_p_point
  refine rs_seq (rs_set (rs_cb (rs_cons (rv_var rfl (rs_nil (rs_absI ?_))))))
  dsimp only
  refine rs_seq ?_
  have hbn : Lb 1400 (q.natAbs : Int) := by
    unfold Lb at *
    omega
  have fold : ∀ i, i ≤ ns.length → 0 < (ns.take i).foldl (fun g x => Nat.gcd g x.natAbs) q.natAbs ∧ Lb 1400 (((ns.take i).foldl (fun g x => Nat.gcd g x.natAbs) q.natAbs : Nat) : Int) := by
    intro i hi
    have h1 := foldl_gcd_le (ns.take i) q.natAbs (by omega)
    have h2 : gcdN (q :: ns.take i) = (ns.take i).foldl (fun g x => Nat.gcd g x.natAbs) q.natAbs := gcdN_eq _ _
    have h3 : 0 < gcdN (q :: ns.take i) := gcd_pos_mem (x := q) (by simp) (by omega)
    rw [h2] at h3
    refine ⟨h3, ?_⟩
    unfold Lb at *
    omega
  refine for_run (ns.map D.int) (fun i ρ => ∃ s, ρ = [.dat (.int q), .dat (.lst (ns.map D.int)), .dat (.int (((ns.take i).foldl (fun g x => Nat.gcd g x.natAbs) q.natAbs : Nat) : Int)), s] ∧ (s = .un ∨ ∃ d, s = .dat d)) (fun R r => rs_it (rv_var rfl r)) ⟨.un, rfl, .inl rfl⟩ ?_ ?_
  · rintro i d ρ' hd ⟨s, rfl, hs⟩
    rw [List.getElem?_map] at hd
    cases hi : ns[i]? with
    | none =>
      rw [hi] at hd
      cases hd
    | some x =>
      rw [hi] at hd
      cases hd
      have hlt : i < ns.length := (List.getElem?_eq_some_iff.mp hi).1
      have hf := fold i (by omega)
      refine rs_set (rs_call (rs_cons (rv_var rfl (rs_cons (rv_var rfl (rs_nil ?_))))))
      refine ⟨_, x, rfl, hf.2, hbs x (List.mem_of_getElem? hi), rfl, .dat (.int x), ?_, .inr ⟨_, rfl⟩⟩
      have e : ns.take (i + 1) = ns.take i ++ [x] := by
        rw [List.take_add_one, hi]
        rfl
      rw [e, List.foldl_append]
      rfl
  · rintro ρ' ⟨s, rfl, hs⟩
    have e : (ns.map D.int).length = ns.length := List.length_map ..
    have hf := fold ns.length (Nat.le_refl _)
    rw [e]
    rw [List.take_length] at hf ⊢
    have eg : ns.foldl (fun g x => Nat.gcd g x.natAbs) q.natAbs = gcdN (q :: ns) := (gcdN_eq ns q).symm
    rw [eg] at hf ⊢
    walk_at "st"
    rw [decide_eq_true hq]
    refine br_tt ?_
    walk_at "st"
    refine rs_divI ?_ (rs_cons (rs_cb (rs_cons ?_)))
    · exact cdiv (by omega) hf.2
    · refine divs_run (k := 1400) (g := gcdN (q :: ns)) (ns := ns) (fun R r => rs_it (rv_var rfl r)) (by rcases hs with rfl | ⟨d, rfl⟩ <;> rfl) hl hf.1 (by decide) (by decide) hf.2 (fun _ => rfl) (fun _ => rfl) (fun _ => rfl) ?_
      refine rs_nil (rs_tupC (rs_nil (and2 (ble5 rfl) ?_)))
      exact k
theorem plain__law_b_lowest (h : asp__law_b_lowest avs n AQ) : as__law_b_lowest (E AQ) (startA 5 avs) n := by
  obtain ⟨⟨b, cs⟩, rfl, hp, hl, hg, k⟩ := h
  unfold as__law_b_lowest
  refine rs_seq (rs_set (rs_lit ?_))
  dsimp only
  refine rs_seq ?_
  have hpl := pl_two hp
  have fold : ∀ i, i ≤ (b :: cs).length → Lb 1400 (gcdN ((b :: cs).take i) : Int) := by
    intro i hi
    rcases Nat.eq_zero_or_pos (gcdN ((b :: cs).take i)) with h0 | h0
    · rw [h0]
      exact Nat.two_pow_pos 1400
    · exact gcdN_lb (fun x hx => hpl x (List.mem_of_mem_take hx)) h0
  have hit : ∀ R : List D → Nat → Prop, R ((b :: cs).map D.int) n → aIt (aOp arAdd (aTup (aCons (aVar 0) aNil)) (aCB arTuple (aCons (aVar 1) aNil))) [.dat (.int b), .dat (tupI cs), .dat (.int 0), .un, .un] n R := fun R r => by
    refine rs_it (rs_op (rs_tup (rs_cons (rv_var rfl (rs_nil (and2 (ble5 rfl) (rs_cb (rs_cons (rv_var rfl (rs_nil ?_)))))))))) 
    show ([D.int b] : List D).length + (cs.map D.int).length ≤ 100000 ∧ R ([D.int b] ++ cs.map D.int) n
    refine ⟨?_, r⟩
    rw [List.length_map]
    have : cs.length ≤ 2 := hl
    simp
    omega
  refine for_run ((b :: cs).map D.int) (fun i ρ => ∃ s, ρ = [.dat (.int b), .dat (tupI cs), .dat (.int (gcdN ((b :: cs).take i) : Int)), s, .un]) hit ⟨.un, rfl⟩ ?_ ?_
  · rintro i d ρ' hd ⟨s, rfl⟩
    rw [List.getElem?_map] at hd
    cases hi : (b :: cs)[i]? with
    | none =>
      rw [hi] at hd
      cases hd
    | some x =>
      rw [hi] at hd
      cases hd
      have hlt : i < (b :: cs).length := (List.getElem?_eq_some_iff.mp hi).1
      have hf := fold i (by omega)
      refine rs_set (rs_call (rs_cons (rv_var rfl (rs_cons (rv_var rfl (rs_nil ?_))))))
      refine ⟨_, x, rfl, hf, hpl x (List.mem_of_getElem? hi), rfl, .dat (.int x), ?_⟩
      have e : gcdN ((b :: cs).take (i + 1)) = Nat.gcd (gcdN ((b :: cs).take i)) x.natAbs := by
        unfold gcdN
        rw [List.take_add_one, hi, List.foldl_append]
        rfl
      rw [e]
      rfl
  · rintro ρ' ⟨s, rfl⟩
    have e : ((b :: cs).map D.int).length = (b :: cs).length := List.length_map ..
    have hf := fold (b :: cs).length (Nat.le_refl _)
    rw [e]
    rw [List.take_length] at hf ⊢
    have hg' : 0 < gcdN (b :: cs) := hg
    dsimp only
    refine rs_ret (rs_tup (rs_cons (rs_op (rv_var rfl (rv_var rfl (rs_divI ?_ (rs_cons (rs_cb (rs_cons ?_)))))))))
    · exact cdiv (by omega) hf
    · have hl1 : cs.length ≤ 2 := hl
      refine divs_run (k := 1400) (g := gcdN (b :: cs)) (ns := cs) (fun R r => rs_it (rv_var rfl r)) rfl (by omega) hg' (by decide) (by decide) hf (fun _ => rfl) (fun _ => rfl) (fun _ => rfl) ?_
      refine rs_nil (rs_tupC (rs_nil (and2 (ble5 rfl) ?_)))
      exact k
theorem plain__law_b_through (h : asp__law_b_through avs n AQ) : as__law_b_through (E AQ) (startA 10 avs) n := by
  obtain ⟨⟨q1, l1⟩, ⟨q2, l2⟩, rfl, h1, h2, e1, e2, hg, q⟩ := h
  obtain ⟨a, b, rfl⟩ := len2 e1
  obtain ⟨c, d, rfl⟩ := len2 e2
  obtain ⟨b1, b2, b3⟩ := pb2 h1
  obtain ⟨b4, b5, b6⟩ := pb2 h2
  have hb : PB 1400 (thr (q1, [a, b]) (q2, [c, d])) := by
    refine pb_mk2 ?_ ?_ ?_
    · show Lb 1400 (0 - ((d * q1 - b * q2) * a - (c * q1 - a * q2) * b))
      walk_at "sz"
    · show Lb 1400 ((d * q1 - b * q2) * q1)
      walk_at "sz"
    · show Lb 1400 (0 - (c * q1 - a * q2) * q1)
      walk_at "sz"
  walk_at "go"
  (conv => whnf)
  exact ⟨thr (q1, [a, b]) (q2, [c, d]), rfl, hb, Nat.le_refl 2, hg, q⟩
theorem plain__law_p_before (h : asp__law_p_before avs n AQ) : as__law_p_before (E AQ) (startA 4 avs) n := by
  obtain ⟨p, r, rfl, hp, hr, hl, q⟩ := h
  unfold as__law_p_before
  refine rs_seq ?_
  have hz : zipD (p.2.map D.int) (r.2.map D.int) = (p.2.zip r.2).map fun z => D.tup [.int z.1, .int z.2] := zipD_ints _ _
  have q' : AQ (.st (.bl (bef (p.2.zip r.2) p.1 r.1))) n := q
  refine for_run ((p.2.zip r.2).map fun z => D.tup [.int z.1, .int z.2]) (fun i ρ => ∃ s s', ρ = [.dat (ptD p), .dat (ptD r), s, s'] ∧ bef (p.2.zip r.2) p.1 r.1 = bef ((p.2.zip r.2).drop i) p.1 r.1) (fun R q => ?_) ⟨.un, .un, rfl, rfl⟩ ?_ ?_
  · rw [← hz] at q
    exact q
  · rintro i d ρ' hd ⟨s, s', rfl, hb⟩
    rw [List.getElem?_map] at hd
    cases hi : (p.2.zip r.2)[i]? with
    | none =>
      rw [hi] at hd
      cases hd
    | some z =>
      rw [hi] at hd
      cases hd
      have hm := List.of_mem_zip (List.mem_of_getElem? hi)
      have hdr : (p.2.zip r.2).drop i = z :: (p.2.zip r.2).drop (i + 1) := by
        obtain ⟨hlt, he⟩ := List.getElem?_eq_some_iff.mp hi
        rw [← he, List.drop_eq_getElem_cons hlt]
      rw [hdr] at hb
      have c1 : CMulW z.1 r.1 := cmul (hp.2 _ hm.1) hr.1
      have c2 : CMulW z.2 p.1 := cmul (hr.2 _ hm.2) hp.1
      refine and2 rfl (and2 rfl ?_)
      walk_at "st"
      refine rs_mulI c1 ?_
      walk_at "st"
      refine rs_mulI c2 ?_
      walk_at "st"
      refine br_not (fun e => ?_) (fun e => ?_)
      · walk_at "st"
        refine rs_mulI c1 ?_
        walk_at "st"
        refine rs_mulI c2 ?_
        walk_at "st"
        have e2 : bef (p.2.zip r.2) p.1 r.1 = decide (z.1 * r.1 < z.2 * p.1) := by
          rw [hb]
          show (if z.1 * r.1 = z.2 * p.1 then _ else _) = _
          rw [if_neg e]
        rw [e2] at q'
        exact q'
      · refine rs_next ⟨rfl, .dat (.int z.1), .dat (.int z.2), rfl, ?_⟩
        rw [hb]
        show (if z.1 * r.1 = z.2 * p.1 then _ else _) = _
        rw [if_pos e]
  · rintro ρ' ⟨s, s', rfl, hb⟩
    rw [List.length_map, List.drop_length] at hb
    rw [hb] at q'
    exact q'
end K58
set_option Elab.async false
set_option linter.all false
set_option maxRecDepth 100000
set_option maxHeartbeats 4000000
/-! K58P5: what the readings say: sorted, side, around. -/
namespace K58
open PySem PySem.Spec PyProof.Rows L2 Ab
local macro_rules | `(tactic| walk_at "sz") => `(tactic| repeat (first | (with_reducible exact Lb.mono (by assumption) (by decide)) | (with_reducible exact lb_lit (by decide +kernel)) | (with_reducible refine lb_sub ?_ ?_) | (with_reducible refine lb_add ?_ ?_) | (with_reducible refine lb_half ?_ ?_) | (with_reducible refine lb_neg ?_)))
local macro_rules | `(tactic| walk_at "go1") => `(tactic| ((conv => whnf); refine and2 ?x ?_; (case x => (first | exact rfl | exact ble5 rfl | (refine cmul (j := 5000) (k := 5000) ?m1 ?m2; (case m1 => walk_at "sz"); (case m2 => walk_at "sz"))))))
local macro_rules | `(tactic| walk_at "go") => `(tactic| repeat (walk_at "go1"))
local macro_rules | `(tactic| walk_at "fin") => `(tactic| ((conv => whnf); assumption))
local macro_rules | `(tactic| walk_at "wh") => `(tactic| (conv => whnf))
theorem rs_lenF {ds : List D} {n : Nat} {Q : AV → Nat → Prop} (k : Q (.st (.int ds.length)) n) : arLen [.fr ds] n Q := k
theorem rs_addFF {ds es : List D} {n : Nat} {Q : AV → Nat → Prop} (h : ds.length + es.length ≤ 100000) (k : Q (.fr (ds ++ es)) n) : arAdd (.fr ds) (.fr es) n Q := ⟨h, k⟩
theorem rs_addLF {ds es : List D} {n : Nat} {Q : AV → Nat → Prop} (h : ds.length + es.length ≤ 100000) (k : Q (.fr (ds ++ es)) n) : arAdd (.st (.lst ds)) (.fr es) n Q := ⟨h, k⟩
theorem rs_addTT {ds es : List D} {n : Nat} {Q : AV → Nat → Prop} (h : ds.length + es.length ≤ 100000) (k : Q (.st (.tup (ds ++ es))) n) : arAdd (.st (.tup ds)) (.st (.tup es)) n Q := ⟨h, k⟩
theorem rs_ixL {ds : List D} {i : Int} {d : D} {n : Nat} {Q : AV → Nat → Prop} (h : atI ds i = some d) (k : Q (.st d) n) : arIx (.st (.lst ds)) (.st (.int i)) n Q := by
  show (match atI ds i with
    | some d => Q (.st d) n
    | none => False)
  rw [h]
  exact k
theorem rs_gn {i : Nat} {d : D} {ρ : Ab.Env} {K : Ab.Env → Prop} (h : K (ρ.set i (.dat d))) : aGn i d ρ K := h
theorem rs_sl {ae : AE} {al ah : AO} {ρ : Ab.Env} {n : Nat} {Q : AV → Nat → Prop} (h : ae ρ n fun x n1 => al ρ n1 fun lo n2 => ah ρ n2 fun hi n3 => match x.d with
  | .lst ds => Q (.fr (Ab.cutD ds lo hi)) n3
  | .tup ds => Q (.st (.tup (Ab.cutD ds lo hi))) n3
  | _ => False) : aSl ae al ah ρ n Q := h
theorem rs_part {ae : AE} {ρ : Ab.Env} {n : Nat} {Q : Option Int → Nat → Prop} (h : ae ρ n fun x n1 => match x.d with
  | .int i => Q (some i) n1
  | _ => False) : aPart ae ρ n Q := h
theorem rs_nopart {ρ : Ab.Env} {n : Nat} {Q : Option Int → Nat → Prop} (h : Q none n) : aNoPart ρ n Q := h
theorem rs_neg1 {ae : AE} {ρ : Ab.Env} {n : Nat} {Q : AV → Nat → Prop} (h : ae ρ n fun x n1 => arNeg x n1 Q) : aUn arNeg ae ρ n Q := h
theorem rs_negI {i : Int} {n : Nat} {Q : AV → Nat → Prop} (k : Q (.st (.int (-i))) n) : arNeg (.st (.int i)) n Q := k
theorem rs_and {t u : AT} {ρ : Ab.Env} {n : Nat} {Q : Bool → Nat → Prop} (h : t ρ n fun c n1 => br c (u ρ n1 Q) (Q false n1)) : aAnd t u ρ n Q := h
theorem rs_or {t u : AT} {ρ : Ab.Env} {n : Nat} {Q : Bool → Nat → Prop} (h : t ρ n fun c n1 => br c (Q true n1) (u ρ n1 Q)) : aOr t u ρ n Q := h
theorem rs_not {t : AT} {ρ : Ab.Env} {n : Nat} {Q : Bool → Nat → Prop} (h : t ρ n fun c n1 => Q (!c) n1) : aNot t ρ n Q := h
theorem rs_rev {ae : AE} {ρ : Ab.Env} {n : Nat} {Q : AV → Nat → Prop} (h : ae ρ n fun x n1 => match x.d with
  | .lst ds => Q (.fr ds.reverse) n1
  | _ => False) : aRev ae ρ n Q := h
local macro_rules | `(tactic| walk_at "st") => `(tactic| repeat (first
  | (with_reducible refine rs_seq ?_) | (with_reducible refine rs_set ?_) | (with_reducible refine rs_par ?_) | (with_reducible refine rs_if ?_) | (with_reducible refine rs_br ?_) | (with_reducible refine rs_test ?_)
  | (with_reducible refine rs_op ?_) | (with_reducible refine rs_cb ?_) | (with_reducible refine rs_cons ?_) | (with_reducible refine rs_nil ?_) | (with_reducible refine rs_lit ?_)
  | ((with_reducible refine rv_chk ?_); refine rv_var rfl ?_) | ((with_reducible refine rv_chk ?_); refine rv_pen rfl ?_)
  | (with_reducible refine rs_ret ?_) | (with_reducible refine rs_tup ?_) | (with_reducible refine rs_lst ?_) | (with_reducible refine rs_call ?_) | (with_reducible refine rs_asg ?_) | (with_reducible refine rs_it ?_)
  | (with_reducible refine rs_next ?_) | (with_reducible refine rs_brk ?_)
  | (with_reducible refine rs_subI ?_) | (with_reducible refine rs_addI ?_) | (with_reducible refine rs_ltI ?_) | (with_reducible refine rs_leI ?_) | (with_reducible refine rs_gtI ?_) | (with_reducible refine rs_geI ?_)
  | (with_reducible refine rs_absI ?_) | (with_reducible refine rs_intI ?_) | (with_reducible refine rs_lenL ?_) | (with_reducible refine rs_tupC ?_) | (with_reducible refine rs_tupT ?_) | (with_reducible refine rs_tupL ?_)
  | (with_reducible refine eq_int ?_) | (with_reducible refine ne_int ?_) | (with_reducible refine ix_pt0 ?_) | (with_reducible refine ix_pt1 ?_) | (with_reducible refine len_seqP ?_) | (with_reducible refine len_tupI ?_)
  | (with_reducible refine rs_lenF ?_) | (with_reducible refine rs_gn ?_) | (with_reducible refine rs_sl ?_) | (with_reducible refine rs_part ?_) | (with_reducible refine rs_nopart ?_) | (with_reducible refine rs_neg1 ?_) | (with_reducible refine rs_negI ?_)
  | (with_reducible refine rs_and ?_) | (with_reducible refine rs_or ?_) | (with_reducible refine rs_not ?_) | (with_reducible refine rs_rev ?_)
  | dsimp only [AV.d, stAll, Option.map]))

theorem cutD_take (ds : List D) (k : Nat) (h : k ≤ ds.length) : Ab.cutD ds none (some (k : Int)) = ds.take k := by
  unfold Ab.cutD
  rw [HT.sIx_none, HT.sIx_nat, Nat.min_eq_left h]
  rfl
theorem cutD_drop (ds : List D) (k : Nat) (h : k ≤ ds.length) : Ab.cutD ds (some (k : Int)) none = ds.drop k := by
  unfold Ab.cutD
  rw [HT.sIx_none, HT.sIx_nat, Nat.min_eq_left h]
  apply List.take_of_length_le
  rw [List.length_drop]
  exact Nat.le_refl _
theorem sIx_m1 (n d : Nat) : HT.sIx n d (some (-1)) = n - 1 := by
  rw [HT.sIx, if_pos (by decide)]
  omega
theorem cutD_init (ds : List D) : Ab.cutD ds none (some (-1)) = ds.dropLast := by
  unfold Ab.cutD
  rw [HT.sIx_none, sIx_m1, List.dropLast_eq_take]
  rfl
theorem cutD_mid (ds : List D) : Ab.cutD ds (some 1) (some (-1)) = (ds.drop 1).dropLast := by
  unfold Ab.cutD
  rw [sIx_m1, show HT.sIx ds.length 0 (some 1) = min 1 ds.length from HT.sIx_nat _ 0 1, List.dropLast_eq_take, List.length_drop]
  cases ds with
  | nil => rfl
  | cons d ds =>
    rw [show min 1 (d :: ds).length = 1 by simp]
/-- a kept part of what a list maps to -/
theorem lc_filterA {α : Type} {ai : AI} {g : AG} {tt : AT} {ae : AE} {vs : List Nat} {ρ : Ab.Env} {n : Nat} {Q : AV → Nat → Prop} (xs : List α) (m : α → D) (p : α → Bool) (f : α → D) (hi : ∀ R : List D → Nat → Prop, R (xs.map m) n → ai ρ n R) (hn : noOwn ρ vs = true) (hl : xs.length < 100000)
    (hf : ∀ x ∈ xs, ∀ (k1 k2 : Nat → Prop), (p x = true → k1 n) → (p x = false → k2 n) → ∀ ko : AV → Nat → Prop, (∀ av, stOne av = some (f x) → k1 n → ko av n) →
      g (m x) (wipeA ρ vs) fun ρ2 => tt ρ2 n fun b n2 => br b (ae ρ2 n2 ko) (k2 n2)) (hQ : Q (.fr ((xs.filter p).map f)) n) : aLc ai g tt ae vs ρ n Q := by
  refine hi _ ⟨hn, by rw [List.length_map]; exact hl, fun i acc m => m = n ∧ acc = ((xs.take i).filter p).map f, ⟨rfl, rfl⟩, ?_, ?_⟩
  · rintro i d acc m' hd ⟨rfl, rfl⟩
    rw [List.getElem?_map] at hd
    cases hx : xs[i]? with
    | none =>
      rw [hx] at hd
      cases hd
    | some x =>
      rw [hx] at hd
      cases hd
      have e : xs.take (i + 1) = xs.take i ++ [x] := by
        rw [List.take_add_one, hx]
        rfl
      refine hf x (List.mem_of_getElem? hx) (fun n' => p x = true ∧ n' = m') (fun n2 => n2 = m' ∧ ((xs.take i).filter p).map f = ((xs.take (i + 1)).filter p).map f) (fun h => ⟨h, rfl⟩) (fun h => ⟨rfl, ?_⟩)
        (fun av n3 => ∃ e, stOne av = some e ∧ (n3 = m' ∧ ((xs.take i).filter p).map f ++ [e] = ((xs.take (i + 1)).filter p).map f)) (fun av hav ⟨h, _⟩ => ⟨_, hav, rfl, ?_⟩)
      · rw [e, List.filter_append, List.map_append]
        simp [h]
      · rw [e, List.filter_append, List.map_append]
        simp [h]
  · rintro acc m' ⟨rfl, rfl⟩
    rw [List.length_map, List.take_length]
    exact hQ
theorem itk_ints (k : Nat) (ns : List Int) : (ns.map D.int).all (itk k) = true := by
  rw [List.all_map, List.all_eq_true]
  intro x _
  cases k <;> rfl
theorem itk_pt (p : Pt) : itk 2 (ptD p) = true := by
  show ([D.int p.1, tupI p.2].all (itk 1)) = true
  have : itk 1 (tupI p.2) = true := itk_ints 0 p.2
  simp [this]
  rfl
theorem itk_pts (l : List Pt) : (l.map ptD).all (itk 2) = true := by
  rw [List.all_map, List.all_eq_true]
  intro x _
  exact itk_pt x
theorem map_int_inj {xs ys : List Int} (h : xs.map D.int = ys.map D.int) : xs = ys := (List.map_inj_right (f := D.int) (fun x y e => D.int.inj e)).mp h
theorem ptD_inj {p r : Pt} (h : ptD p = ptD r) : p = r := by
  unfold ptD tupI at h
  injection h with h
  injection h with h1 h2
  injection h2 with h2 _
  injection h2 with h2
  injection h1 with h1
  exact Prod.ext h1 (map_int_inj h2)
theorem ptD_mem {p : Pt} {l : List Pt} : ptD p ∈ l.map ptD ↔ p ∈ l := by
  constructor
  · intro h
    obtain ⟨r, hr, e⟩ := List.mem_map.mp h
    exact ptD_inj e ▸ hr
  · exact fun h => List.mem_map.mpr ⟨p, h, rfl⟩
theorem ins_mem {f : List Pt} {p x : Pt} (h : x ∈ ins f p) : x = p ∨ x ∈ f := by
  unfold ins at h
  split at h
  · exact .inr h
  · simp only [List.mem_append, List.mem_singleton] at h
    rcases h with (h | h) | h
    · exact .inr (List.mem_of_mem_take h)
    · exact .inl h
    · exact .inr (List.mem_of_mem_drop h)
theorem fold_ins : ∀ (l f : List Pt), (∀ x, x ∈ l.foldl ins f → x ∈ l ∨ x ∈ f) ∧ (l.foldl ins f).length ≤ l.length + f.length
  | [], f => ⟨fun x h => .inr h, by simp⟩
  | p :: l, f => by
    obtain ⟨h1, h2⟩ := fold_ins l (ins f p)
    refine ⟨fun x hx => ?_, ?_⟩
    · rcases h1 x hx with h | h
      · exact .inl (List.mem_cons_of_mem _ h)
      · rcases ins_mem h with rfl | h
        · exact .inl (by simp)
        · exact .inr h
    · have h3 := ins_len (f := f) (p := p)
      simp only [List.foldl_cons, List.length_cons]
      omega
section
variable (avs : List AV) (n : Nat) (AQ : AV → Nat → Prop)
theorem plain__law_p_sorted (h : asp__law_p_sorted avs n AQ) : as__law_p_sorted (E AQ) (startA 5 avs) n := by
  obtain ⟨l, rfl, hl, hlen, q⟩ := h
  unfold as__law_p_sorted
  refine rs_seq (rs_set (rs_lst (rs_nil (and2 (ble5 rfl) ?_))))
  dsimp only
  refine rs_seq ?_
  refine for_run (l.map ptD) (fun i ρ => ∃ s2 s3 s4, ρ = [.dat (.lst (l.map ptD)), .dat (.lst (((l.take i).foldl ins []).map ptD)), s2, s3, s4] ∧ (∀ ds, s4 ≠ .own ds)) (fun R r => rs_it (rv_var rfl r)) ⟨.un, .un, .un, rfl, fun _ e => nomatch e⟩ ?_ ?_
  · rintro i d ρ' hd ⟨s2, s3, s4, rfl, hs⟩
    rw [List.getElem?_map] at hd
    cases hi : l[i]? with
    | none =>
      rw [hi] at hd
      cases hd
    | some p =>
      rw [hi] at hd
      cases hd
      have hlt : i < l.length := (List.getElem?_eq_some_iff.mp hi).1
      have hpl := hl p (List.mem_of_getElem? hi)
      have e : (l.take (i + 1)).foldl ins [] = ins ((l.take i).foldl ins []) p := by
        rw [List.take_add_one, hi, List.foldl_append]
        rfl
      have fi := fold_ins (l.take i) []
      generalize (l.take i).foldl ins [] = f at e fi ⊢
      have hfl : f.length ≤ 1000 := by
        have h1 := fi.2
        have : (l.take i).length ≤ l.length := by rw [List.length_take]; omega
        simp at h1
        omega
      have hfm : ∀ x ∈ f, PB 2000 x ∧ x.2.length ≤ 2 := fun x hx => by
        rcases fi.1 x hx with h | h
        · exact hl x (List.mem_of_mem_take h)
        · simp at h
      walk_at "st"
      refine lc_filterA f ptD (fun o => before o p) (fun _ => .int 1) (fun R r => by refine rs_it (rv_var rfl ?_); exact r) ?_ (by omega) ?_ ?_
      · cases s4 <;> first | rfl | exact absurd rfl (hs _)
      · intro x hx k1 k2 h1 h2 ko hko
        have hxl := hfm x hx
        refine rs_test (rs_call (rs_cons (rv_var rfl (rs_cons (rv_var rfl (rs_nil ?_))))))
        refine ⟨x, p, rfl, hxl.1, hpl.1, hxl.2, ?_⟩
        show br (before x p) _ _
        cases hb : before x p with
        | true => exact br_tt (rs_lit (hko _ rfl (h1 hb)))
        | false => exact br_ff (h2 hb)
      · generalize hk : (f.filter fun o => before o p).length = k
        have hkf : k ≤ f.length := by
          rw [← hk]
          exact List.length_filter_le ..
        have elen : (((f.filter fun o => before o p).map fun _ => D.int 1).length : Int) = (k : Int) := by
          rw [List.length_map, hk]
        refine rs_nil (rs_lenF ?_)
        rw [elen]
        walk_at "st"
        refine nin_itk (k := 2) (j := 2) (p := p ∈ f) (itk_pt p) (itk_pts f) ptD_mem ?_
        walk_at "st"
        refine br_not (fun hn => ?_) (fun hn => ?_)
        · have e2 : ins f p = f.take k ++ [p] ++ f.drop k := by
            unfold ins
            rw [if_neg hn, hk]
          walk_at "st"
          refine and2 (ble5 rfl) ?_
          walk_at "st"
          have hkd : k ≤ (f.map ptD).length := by rw [List.length_map]; exact hkf
          rw [cutD_take _ k hkd]
          refine rs_addFF ?_ ?_
          · rw [List.length_take, List.length_map]
            simp
            omega
          walk_at "st"
          rw [cutD_drop _ k hkd]
          refine rs_addFF ?_ ?_
          · rw [List.length_append, List.length_take, List.length_drop, List.length_map]
            simp
            omega
          refine ⟨rfl, .dat (ptD p), .dat (.int k), s4, ?_, hs⟩
          rw [e, e2]
          rw [List.map_append, List.map_append, List.map_take, List.map_drop]
          rfl
        · have e2 : ins f p = f := by
            unfold ins
            rw [if_pos hn]
          walk_at "st"
          refine ⟨rfl, .dat (ptD p), .dat (.int k), s4, ?_, hs⟩
          rw [e, e2]
          rfl
  · rintro ρ' ⟨s2, s3, s4, rfl, hs⟩
    rw [List.length_map, List.take_length]
    walk_at "st"
    exact q

theorem plain__law_p_side (h : asp__law_p_side avs n AQ) : as__law_p_side (E AQ) (startA 14 avs) n := by
  obtain ⟨p, r, t, rfl, hp, hr, ht, lp, lr, lt, q⟩ := h
  obtain ⟨a, ps⟩ := p
  obtain ⟨d, rs⟩ := r
  obtain ⟨g, ts⟩ := t
  obtain ⟨b, c, rfl⟩ := len2 lp
  obtain ⟨e, f, rfl⟩ := len2 lr
  obtain ⟨h, i, rfl⟩ := len2 lt
  obtain ⟨p1, p2, p3⟩ := pb2 hp
  obtain ⟨p4, p5, p6⟩ := pb2 hr
  obtain ⟨p7, p8, p9⟩ := pb2 ht
  have q' : AQ (.st (.int (a * (e * i - f * h) - b * (d * i - f * g) + c * (d * h - e * g)))) n := q
  unfold as__law_p_side
  refine rs_seq (rs_set ?_)
  refine lc_run [ptD (a, [b, c]), ptD (d, [e, f]), ptD (g, [h, i])] [.tup [.int a, .int b, .int c], .tup [.int d, .int e, .int f], .tup [.int g, .int h, .int i]] (fun R r => ⟨ble5 rfl, r⟩) rfl (Nat.lt_of_le_of_lt (Nat.le_of_ble_eq_true rfl : 3 ≤ 3) (by decide)) rfl ?_ ?_
  · intro z d' e' hd he k k2 hk
    match z, hd, he with
    | 0, hd, he =>
      cases hd
      cases he
      refine br_tt ?_
      exact ⟨ble5 rfl, ble5 rfl, hk _ rfl⟩
    | 1, hd, he =>
      cases hd
      cases he
      refine br_tt ?_
      exact ⟨ble5 rfl, ble5 rfl, hk _ rfl⟩
    | 2, hd, he =>
      cases hd
      cases he
      refine br_tt ?_
      exact ⟨ble5 rfl, ble5 rfl, hk _ rfl⟩
    | z + 3, hd, he => cases hd
  · walk_at "go"
    walk_at "fin"
/-- a chain popped while it does not turn -/
theorem pop_run {i : Nat} {up : Bool} {ar : AR2} {A : AEnds} {mk : List D → Ab.Env} {n : Nat} {p : Pt} {s : List Pt} (har : ∀ (x : Int) (n : Nat) (Q : AV → Nat → Prop), Q (.st (.bl (if up then decide (x ≤ 0) else decide (0 ≤ x)))) n → ar (.st (.int x)) (.st (.int 0)) n Q)
    (hget : ∀ ds, (mk ds)[i]? = some (.dat (.lst ds))) (h3 : ∀ ds, (mk ds)[3]? = some (.dat (ptD p))) (hset : ∀ ds ds', (mk ds).set i (.dat (.lst ds')) = mk ds')
    (hs : ∀ x ∈ s, PB 2000 x ∧ x.2.length = 2) (hp : PB 2000 p ∧ p.2.length = 2) (k : A.nx (mk ((popS up s p).reverse.map ptD)) n) :
    aWhile (aAnd (aTest (aOp arGt (aCB arLen (aCons (aVar i) aNil)) (aC (.int 1)))) (aTest (aOp ar (aCall asp__law_p_side (aCons (aOp arIx (aVar i) (aUn arNeg (aC (.int 2)))) (aCons (aOp arIx (aVar i) (aUn arNeg (aC (.int 1)))) (aCons (aVar 3) aNil)))) (aC (.int 0))))) (aSet i (aSl (aVar i) aNoPart (aPart (aUn arNeg (aC (.int 1)))))) A (mk (s.reverse.map ptD)) n := by
  refine ⟨fun m ρ' n' => n' = n ∧ ∃ s' : List Pt, s'.length = m ∧ popS up s' p = popS up s p ∧ (∀ x ∈ s', x ∈ s) ∧ ρ' = mk (s'.reverse.map ptD), ⟨s.length, rfl, s, rfl, rfl, fun _ h => h, rfl⟩, ?_⟩
  rintro m ρ' n' ⟨rfl, s', rfl, hpop, hsub, rfl⟩
  have hlen : (s'.reverse.map ptD).length = s'.length := by rw [List.length_map, List.length_reverse]
  refine rs_and (rs_test (rs_op (rs_cb (rs_cons (rv_var (hget _) (rs_nil (rs_lenL (rs_lit (rs_gtI ?_)))))))))
  show br (decide ((1 : Int) < ((s'.reverse.map ptD).length : Nat))) _ _
  rw [hlen]
  match s', hpop, hsub, hlen with
  | [], hpop, hsub, _ =>
    refine br_ff (br_ff ?_)
    rw [← hpop] at k
    rw [popS] at k
    · exact k
    · intro b a r h; cases h
  | [b], hpop, hsub, _ =>
    refine br_ff (br_ff ?_)
    rw [← hpop] at k
    rw [popS] at k
    · exact k
    · intro b a r h; cases h
  | b :: a :: r, hpop, hsub, hlen =>
    have hb := hs b (hsub b (by simp))
    have ha := hs a (hsub a (by simp))
    have h1 : decide ((1 : Int) < ((b :: a :: r).length : Nat)) = true := decide_eq_true (by simp only [List.length_cons]; omega)
    rw [h1]
    have e0 : (b :: a :: r).reverse.map ptD = (r.reverse.map ptD ++ [ptD a]) ++ [ptD b] := by simp
    refine br_tt (rs_test (rs_op (rs_call (rs_cons (rs_op (rv_var (hget _) (rs_neg1 (rs_lit (rs_negI ?_)))))))))
    have i1 : atI ((r.reverse.map ptD ++ [ptD a]) ++ [ptD b]) (-1) = some (ptD b) := atI_last _ _
    have i2 : atI ((r.reverse.map ptD ++ [ptD a]) ++ [ptD b]) (-2) = some (ptD a) := by
      have hl : ((r.reverse.map ptD ++ [ptD a]) ++ [ptD b]).length = r.length + 2 := by simp
      have e : ixN ((r.reverse.map ptD ++ [ptD a]) ++ [ptD b]).length (-2) = some r.length := by
        unfold ixN
        rw [hl, if_neg (by decide), if_pos (by omega)]
        congr 1
        omega
      unfold atI
      rw [e]
      show ((r.reverse.map ptD ++ [ptD a]) ++ [ptD b])[r.length]? = _
      rw [List.append_assoc, List.getElem?_append_right (by simp)]
      simp
    rw [← e0] at i1 i2
    refine rs_ixL i2 ?_
    refine rs_cons (rs_op (rv_var (hget _) (rs_neg1 (rs_lit (rs_negI ?_)))))
    refine rs_ixL i1 ?_
    refine rs_cons (rv_var (h3 _) (rs_nil ?_))
    refine ⟨a, b, p, rfl, ha.1, hb.1, hp.1, ha.2, hb.2, hp.2, ?_⟩
    refine rs_lit (har _ _ _ ?_)
    have key : popS up (b :: a :: r) p = if (if up then decide (side a b p ≤ 0) else decide (0 ≤ side a b p)) = true then popS up (a :: r) p else b :: a :: r := by rw [popS]
    cases hc : (if up then decide (side a b p ≤ 0) else decide (0 ≤ side a b p)) with
    | true =>
      rw [hc, if_pos rfl] at key
      refine br_tt ?_
      refine rs_set (rs_sl (rv_var (hget _) (rs_nopart (rs_part (rs_neg1 (rs_lit (rs_negI ?_)))))))
      show ({ A with nx := _, ct := _, bk := _ } : AEnds).nx ((mk _).set i (.dat (.lst (Ab.cutD ((b :: a :: r).reverse.map ptD) none (some (-1)))))) _
      dsimp only
      refine ⟨(a :: r).length, by simp, rfl, a :: r, rfl, key.symm.trans hpop, fun x hx => hsub x (List.mem_cons_of_mem _ hx), ?_⟩
      rw [hset, cutD_init, e0, List.dropLast_concat]
      simp
    | false =>
      rw [hc, if_neg (by decide)] at key
      refine br_ff ?_
      rw [← hpop, key] at k
      exact k
end
end K58
set_option Elab.async false
set_option linter.all false
set_option maxRecDepth 100000
set_option maxHeartbeats 4000000
/-! K58P6: what the readings say: around, the borders. -/
namespace K58
open PySem PySem.Spec PyProof.Rows L2 Ab
local macro_rules | `(tactic| walk_at "sz") => `(tactic| repeat (first | (with_reducible exact Lb.mono (by assumption) (by decide)) | (with_reducible exact lb_lit (by decide +kernel)) | (with_reducible refine lb_sub ?_ ?_) | (with_reducible refine lb_add ?_ ?_) | (with_reducible refine lb_half ?_ ?_) | (with_reducible refine lb_neg ?_)))
local macro_rules | `(tactic| walk_at "go1") => `(tactic| ((conv => whnf); refine and2 ?x ?_; (case x => (first | exact rfl | exact ble5 rfl | (refine cmul (j := 5000) (k := 5000) ?m1 ?m2; (case m1 => walk_at "sz"); (case m2 => walk_at "sz"))))))
local macro_rules | `(tactic| walk_at "go") => `(tactic| repeat (walk_at "go1"))
local macro_rules | `(tactic| walk_at "fin") => `(tactic| ((conv => whnf); assumption))
local macro_rules | `(tactic| walk_at "wh") => `(tactic| (conv => whnf))
local macro_rules | `(tactic| walk_at "st") => `(tactic| repeat (first
  | (with_reducible refine rs_seq ?_) | (with_reducible refine rs_set ?_) | (with_reducible refine rs_par ?_) | (with_reducible refine rs_if ?_) | (with_reducible refine rs_br ?_) | (with_reducible refine rs_test ?_)
  | (with_reducible refine rs_op ?_) | (with_reducible refine rs_cb ?_) | (with_reducible refine rs_cons ?_) | (with_reducible refine rs_nil ?_) | (with_reducible refine rs_lit ?_)
  | ((with_reducible refine rv_chk ?_); refine rv_var rfl ?_) | ((with_reducible refine rv_chk ?_); refine rv_pen rfl ?_)
  | (with_reducible refine rs_ret ?_) | (with_reducible refine rs_tup ?_) | (with_reducible refine rs_lst ?_) | (with_reducible refine rs_call ?_) | (with_reducible refine rs_asg ?_) | (with_reducible refine rs_it ?_)
  | (with_reducible refine rs_next ?_) | (with_reducible refine rs_brk ?_)
  | (with_reducible refine rs_subI ?_) | (with_reducible refine rs_addI ?_) | (with_reducible refine rs_ltI ?_) | (with_reducible refine rs_leI ?_) | (with_reducible refine rs_gtI ?_) | (with_reducible refine rs_geI ?_)
  | (with_reducible refine rs_absI ?_) | (with_reducible refine rs_intI ?_) | (with_reducible refine rs_lenL ?_) | (with_reducible refine rs_tupC ?_) | (with_reducible refine rs_tupT ?_) | (with_reducible refine rs_tupL ?_)
  | (with_reducible refine eq_int ?_) | (with_reducible refine ne_int ?_) | (with_reducible refine ix_pt0 ?_) | (with_reducible refine ix_pt1 ?_) | (with_reducible refine len_seqP ?_) | (with_reducible refine len_tupI ?_)
  | (with_reducible refine rs_lenF ?_) | (with_reducible refine rs_gn ?_) | (with_reducible refine rs_sl ?_) | (with_reducible refine rs_part ?_) | (with_reducible refine rs_nopart ?_) | (with_reducible refine rs_neg1 ?_) | (with_reducible refine rs_negI ?_)
  | (with_reducible refine rs_and ?_) | (with_reducible refine rs_or ?_) | (with_reducible refine rs_not ?_) | (with_reducible refine rs_rev ?_)
  | dsimp only [AV.d, stAll, Option.map]))


section
variable (avs : List AV) (n : Nat) (AQ : AV → Nat → Prop)
theorem popS_sub (up : Bool) {s : List Pt} {p x : Pt} (h : x ∈ popS up s p) : x ∈ s := by
  cases up with
  | true =>
    rw [popS_up] at h
    exact popE_sub s p x h
  | false =>
    rw [popS_dn] at h
    exact popE_sub s p x h
theorem popE_len (e : Int) : ∀ (s : List Pt) (p : Pt), (popE e s p).length ≤ s.length
  | [], p => by simp [popE]
  | [_], p => by simp [popE]
  | b :: a :: r, p => by
    rw [popE]
    split
    · have := popE_len e (a :: r) p
      simp only [List.length_cons] at this ⊢
      omega
    · exact Nat.le_refl _
theorem popS_len (up : Bool) (s : List Pt) (p : Pt) : (popS up s p).length ≤ s.length := by
  cases up with
  | true =>
    rw [popS_up]
    exact popE_len 1 s p
  | false =>
    rw [popS_dn]
    exact popE_len (-1) s p
theorem chain_step (up : Bool) (l : List Pt) (p : Pt) : chain up (l ++ [p]) = p :: popS up (chain up l) p := by
  unfold chain
  rw [List.foldl_append]
  rfl
theorem chain_sub (up : Bool) : ∀ (l s : List Pt), (∀ x, x ∈ l.foldl (fun s p => p :: popS up s p) s → x ∈ l ∨ x ∈ s) ∧ (l.foldl (fun s p => p :: popS up s p) s).length ≤ l.length + s.length
  | [], s => ⟨fun x h => .inr h, by simp⟩
  | p :: l, s => by
    obtain ⟨h1, h2⟩ := chain_sub up l (p :: popS up s p)
    refine ⟨fun x hx => ?_, ?_⟩
    · rcases h1 x hx with h | h
      · exact .inl (List.mem_cons_of_mem _ h)
      · rcases List.mem_cons.mp h with rfl | h
        · exact .inl (by simp)
        · exact .inr (popS_sub up h)
    · have h3 := popS_len up s p
      simp only [List.foldl_cons, List.length_cons] at h2 ⊢
      omega
theorem plain__law_p_around (h : asp__law_p_around avs n AQ) : as__law_p_around (E AQ) (startA 4 avs) n := by
  obtain ⟨l, rfl, hl, hlen, q⟩ := h
  unfold as__law_p_around
  walk_at "st"
  rw [List.length_map]
  refine br_dec (fun h3 => ?_) (fun h3 => ?_)
  · walk_at "st"
    have e : around l = l := if_pos (by omega)
    rw [e] at q
    exact q
  · have e : around l = (chain true l).reverse ++ (((chain false l).reverse.drop 1).dropLast).reverse := if_neg (by omega)
    walk_at "st"
    refine and2 (ble5 rfl) ?_
    walk_at "st"
    refine and2 (ble5 rfl) ?_
    walk_at "st"
    refine for_run (l.map ptD) (fun i ρ => ∃ s3, ρ = [.dat (.lst (l.map ptD)), .dat (.lst ((chain true (l.take i)).reverse.map ptD)), .dat (.lst ((chain false (l.take i)).reverse.map ptD)), s3]) (fun R r => by refine rs_it (rv_var rfl ?_); exact r) ⟨.un, rfl⟩ ?_ ?_
    · rintro i d ρ' hd ⟨s3, rfl⟩
      rw [List.getElem?_map] at hd
      cases hi : l[i]? with
      | none =>
        rw [hi] at hd
        cases hd
      | some p =>
        rw [hi] at hd
        cases hd
        have hpl := hl p (List.mem_of_getElem? hi)
        have et : l.take (i + 1) = l.take i ++ [p] := by
          rw [List.take_add_one, hi]
          rfl
        have sub : ∀ up, (∀ x ∈ chain up (l.take i), PB 2000 x ∧ x.2.length = 2) ∧ (chain up (l.take i)).length ≤ 1000 := fun up => by
          have c := chain_sub up (l.take i) []
          refine ⟨fun x hx => ?_, ?_⟩
          · rcases c.1 x hx with h | h
            · exact hl x (List.mem_of_mem_take h)
            · simp at h
          · have h2 := c.2
            rw [List.length_take] at h2
            simp at h2
            unfold chain
            omega
        have add : ∀ up, ((popS up (chain up (l.take i)) p).reverse.map ptD).length + [ptD p].length ≤ 100000 := fun up => by
          have h1 := popS_len up (chain up (l.take i)) p
          have h2 := (sub up).2
          rw [List.length_map, List.length_reverse]
          simp
          omega
        have fin : ∀ up, (popS up (chain up (l.take i)) p).reverse.map ptD ++ [ptD p] = (chain up (l.take (i + 1))).reverse.map ptD := fun up => by
          rw [et, chain_step]
          simp
        refine rs_gn (rs_seq ?_)
        refine pop_run (i := 1) (up := true) (mk := fun ds => [.dat (.lst (l.map ptD)), .dat (.lst ds), .dat (.lst ((chain false (l.take i)).reverse.map ptD)), .dat (ptD p)]) (p := p) (s := chain true (l.take i)) (fun x n Q h => h) (fun _ => rfl) (fun _ => rfl) (fun _ _ => rfl) (sub true).1 hpl ?_
        walk_at "st"
        refine and2 (ble5 rfl) ?_
        walk_at "st"
        refine rs_addLF (add true) ?_
        walk_at "st"
        rw [fin true]
        refine pop_run (i := 2) (up := false) (mk := fun ds => [.dat (.lst (l.map ptD)), .dat (.lst ((chain true (l.take (i + 1))).reverse.map ptD)), .dat (.lst ds), .dat (ptD p)]) (p := p) (s := chain false (l.take i)) (fun x n Q h => h) (fun _ => rfl) (fun _ => rfl) (fun _ _ => rfl) (sub false).1 hpl ?_
        walk_at "st"
        refine and2 (ble5 rfl) ?_
        walk_at "st"
        refine rs_addLF (add false) ?_
        rw [fin false]
        exact ⟨rfl, .dat (ptD p), rfl⟩
    · rintro ρ' ⟨s3, rfl⟩
      rw [List.length_map, List.take_length]
      walk_at "st"
      rw [show (-1 : Int) = -1 from rfl, cutD_mid]
      have c1 := (chain_sub true l []).2
      have c2 := (chain_sub false l []).2
      refine rs_addLF ?_ ?_
      · rw [List.length_reverse, List.length_dropLast, List.length_drop, List.length_map, List.length_map, List.length_reverse, List.length_reverse]
        simp at c1 c2
        unfold chain
        omega
      walk_at "st"
      rw [e] at q
      have em : (chain true l).reverse.map ptD ++ ((((chain false l).reverse.map ptD).drop 1).dropLast).reverse = ((chain true l).reverse ++ (((chain false l).reverse.drop 1).dropLast).reverse).map ptD := by
        rw [List.map_append]
        congr 1
        conv => rhs; rw [List.map_reverse, List.map_dropLast, List.map_drop]
      rw [em]
      exact q
/-! the law's own borders -/
theorem thr_line (p r : Pt) : thr p r = mulP p.1 (lineP p r) := by
  unfold thr mulP lineP
  have e1 : 0 - ((x1 r * p.1 - x1 p * r.1) * x0 p - (x0 r * p.1 - x0 p * r.1) * x1 p) = p.1 * (0 - (x0 p * x1 r - x1 p * x0 r)) := by grind
  have e2 : (x1 r * p.1 - x1 p * r.1) * p.1 = p.1 * (p.1 * x1 r - x1 p * r.1) := by grind
  have e3 : 0 - (x0 r * p.1 - x0 p * r.1) * p.1 = p.1 * (0 - (p.1 * x0 r - x0 p * r.1)) := by grind
  rw [e1, e2, e3]
  rfl
theorem low_thr {p r : Pt} (h : 0 < p.1) : low (thr p r) = low (lineP p r) := by rw [thr_line, low_mulP h]
theorem gcd_thr {p r : Pt} (h : 0 < p.1) (hg : 0 < gcdN ((lineP p r).1 :: (lineP p r).2)) : 0 < gcdN ((thr p r).1 :: (thr p r).2) := by
  rw [thr_line, gcd_mulP]
  exact Nat.mul_pos (by omega) hg
theorem line_back (p r : Pt) : lineP r p = negP (lineP p r) := by
  unfold negP lineP
  have e1 : 0 - (x0 r * x1 p - x1 r * x0 p) = 0 - (0 - (x0 p * x1 r - x1 p * x0 r)) := by grind
  have e2 : r.1 * x1 p - x1 r * p.1 = 0 - (p.1 * x1 r - x1 p * r.1) := by grind
  have e3 : 0 - (r.1 * x0 p - x0 r * p.1) = 0 - (0 - (p.1 * x0 r - x0 p * r.1)) := by grind
  rw [e1, e2, e3]
  rfl
end
end K58
set_option Elab.async false
set_option linter.all false
set_option maxRecDepth 100000
set_option maxHeartbeats 4000000
/-! K58P7: what the readings say: the law's borders, mixtures. -/
namespace K58
open PySem PySem.Spec PyProof.Rows L2 Ab
local macro_rules | `(tactic| walk_at "sz") => `(tactic| repeat (first | (with_reducible exact Lb.mono (by assumption) (by decide)) | (with_reducible exact lb_lit (by decide +kernel)) | (with_reducible refine lb_sub ?_ ?_) | (with_reducible refine lb_add ?_ ?_) | (with_reducible refine lb_half ?_ ?_) | (with_reducible refine lb_neg ?_)))
local macro_rules | `(tactic| walk_at "go1") => `(tactic| ((conv => whnf); refine and2 ?x ?_; (case x => (first | exact rfl | exact ble5 rfl | (refine cmul (j := 5000) (k := 5000) ?m1 ?m2; (case m1 => walk_at "sz"); (case m2 => walk_at "sz"))))))
local macro_rules | `(tactic| walk_at "go") => `(tactic| repeat (walk_at "go1"))
local macro_rules | `(tactic| walk_at "fin") => `(tactic| ((conv => whnf); assumption))
local macro_rules | `(tactic| walk_at "wh") => `(tactic| (conv => whnf))
local macro_rules | `(tactic| walk_at "st") => `(tactic| repeat (first
  | (with_reducible refine rs_seq ?_) | (with_reducible refine rs_set ?_) | (with_reducible refine rs_par ?_) | (with_reducible refine rs_if ?_) | (with_reducible refine rs_br ?_) | (with_reducible refine rs_test ?_)
  | (with_reducible refine rs_op ?_) | (with_reducible refine rs_cb ?_) | (with_reducible refine rs_cons ?_) | (with_reducible refine rs_nil ?_) | (with_reducible refine rs_lit ?_)
  | ((with_reducible refine rv_chk ?_); refine rv_var rfl ?_) | ((with_reducible refine rv_chk ?_); refine rv_pen rfl ?_)
  | (with_reducible refine rs_ret ?_) | (with_reducible refine rs_tup ?_) | (with_reducible refine rs_lst ?_) | (with_reducible refine rs_call ?_) | (with_reducible refine rs_asg ?_) | (with_reducible refine rs_it ?_)
  | (with_reducible refine rs_next ?_) | (with_reducible refine rs_brk ?_)
  | (with_reducible refine rs_subI ?_) | (with_reducible refine rs_addI ?_) | (with_reducible refine rs_ltI ?_) | (with_reducible refine rs_leI ?_) | (with_reducible refine rs_gtI ?_) | (with_reducible refine rs_geI ?_)
  | (with_reducible refine rs_absI ?_) | (with_reducible refine rs_intI ?_) | (with_reducible refine rs_lenL ?_) | (with_reducible refine rs_tupC ?_) | (with_reducible refine rs_tupT ?_) | (with_reducible refine rs_tupL ?_)
  | (with_reducible refine eq_int ?_) | (with_reducible refine ne_int ?_) | (with_reducible refine ix_pt0 ?_) | (with_reducible refine ix_pt1 ?_) | (with_reducible refine len_seqP ?_) | (with_reducible refine len_tupI ?_)
  | (with_reducible refine rs_lenF ?_) | (with_reducible refine rs_gn ?_) | (with_reducible refine rs_sl ?_) | (with_reducible refine rs_part ?_) | (with_reducible refine rs_nopart ?_) | (with_reducible refine rs_neg1 ?_) | (with_reducible refine rs_negI ?_)
  | (with_reducible refine rs_and ?_) | (with_reducible refine rs_or ?_) | (with_reducible refine rs_not ?_) | (with_reducible refine rs_rev ?_)
  | dsimp only [AV.d, stAll, Option.map]))


section
variable (avs : List AV) (n : Nat) (AQ : AV → Nat → Prop)
theorem rs_ixT {ds : List D} {i : Int} {d : D} {n : Nat} {Q : AV → Nat → Prop} (h : atI ds i = some d) (k : Q (.st d) n) : arIx (.st (.tup ds)) (.st (.int i)) n Q := by
  show (match atI ds i with
    | some d => Q (.st d) n
    | none => False)
  rw [h]
  exact k
theorem rs_lenT {ds : List D} {n : Nat} {Q : AV → Nat → Prop} (k : Q (.st (.int ds.length)) n) : arLen [.st (.tup ds)] n Q := k
theorem rs_zip {aa : AA} {ρ : Ab.Env} {n : Nat} {R : List D → Nat → Prop} (h : aa ρ n fun avs n1 => match avs with
  | [x, y] => match stOne x, stOne y with
    | some d, some e => match seqD d, seqD e with
      | some ds, some es => R (zipD ds es) n1
      | _, _ => False
    | _, _ => False
  | _ => False) : aZip aa ρ n R := h
theorem call_low {ds : List D} {p : Pt} {Q : AV → Nat → Prop} (hp : PB 1400 p) (hl : p.2.length ≤ 2) (hg : 0 < gcdN (p.1 :: p.2)) (k : Q (.st (ptD (low p))) n) : asp__law_b_lowest [.st (.int p.1), .st (tupI p.2)] n Q := ⟨p, rfl, hp, hl, hg, k⟩
theorem plain__law_b_lines (h : asp__law_b_lines avs n AQ) : as__law_b_lines (E AQ) (startA 15 avs) n := by
  obtain ⟨l, rfl, hg, q⟩ := h
  obtain ⟨hne, hlen, hp, hd, hpos⟩ := hg
  have hfl := found_pb14 hp hd
  obtain ⟨a, r, rfl⟩ : ∃ a r, l = a :: r := by
    cases l with
    | nil => exact absurd rfl hne
    | cons a r => exact ⟨a, r, rfl⟩
  have i0 : atI ((a :: r).map ptD) 0 = some (ptD a) := atI_0 _ _
  unfold as__law_b_lines
  walk_at "st"
  refine rs_ixT i0 ?_
  walk_at "st"
  refine br_beq (fun e => ?_) (fun e => ?_)
  · -- one term
    have e1 : a.2.length = 1 := by omega
    have h1 : ∀ p ∈ a :: r, p.2.length = 1 := by
      rcases hd with hd | hd
      · exact hd
      · have := hd a (by simp)
        omega
    have im : atI ((a :: r).map ptD) (-1) = some (ptD ((a :: r).getLastD a)) := by
      have h := atI_m1 a r
      unfold atI at h ⊢
      rw [List.length_map]
      cases hj : ixN (a :: r).length (-1) with
      | none => rw [hj] at h; cases h
      | some j =>
        rw [hj] at h
        show ((a :: r).map ptD)[j]? = _
        rw [List.getElem?_map, show (a :: r)[j]? = some ((a :: r).getLastD a) from h]
        rfl
    have ef : found (a :: r) = endsP a ((a :: r).getLastD a) := if_pos e1
    unfold brd at q
    rw [ef] at q hfl hpos
    have lz := h1 _ (last_mem a r)
    generalize (a :: r).getLastD a = z at im q hfl hpos lz
    walk_at "st"
    refine rs_ixT i0 ?_
    walk_at "st"
    refine rs_ixT im ?_
    obtain ⟨q1, l1⟩ := a
    obtain ⟨q2, l2⟩ := z
    obtain ⟨x, rfl⟩ := len1 e1
    obtain ⟨y, rfl⟩ := len1 lz
    have m1 : ((x, [0 - q1]) : Pt) ∈ endsP (q1, [x]) (q2, [y]) := by simp [endsP, x0]
    have m2 : ((0 - y, [q2]) : Pt) ∈ endsP (q1, [x]) (q2, [y]) := by simp [endsP, x0]
    walk_at "go"
    walk_at "wh"
    refine ⟨(x, [0 - q1]), rfl, (hfl _ m1).1, (hfl _ m1).2, hpos _ m1, ?_⟩
    walk_at "go"
    walk_at "wh"
    refine ⟨(0 - y, [q2]), rfl, (hfl _ m2).1, (hfl _ m2).2, hpos _ m2, ?_⟩
    walk_at "go"
    exact q
  · have h2 : ∀ p ∈ a :: r, p.2.length = 2 := by
      rcases hd with hd | hd
      · have := hd a (by simp)
        exact absurd (by omega) e
      · exact hd
    have n1 : ¬ a.2.length = 1 := by
      have := h2 a (by simp)
      omega
    walk_at "st"
    refine rs_lenT ?_
    rw [List.length_map]
    walk_at "st"
    refine br_beq (fun e => ?_) (fun e => ?_)
    · -- a point
      have er : r = [] := by
        cases r with
        | nil => rfl
        | cons c r =>
          simp at e
          omega
      subst er
      have ef : found [a] = ptB a := if_neg n1
      unfold brd at q
      rw [ef] at q hfl hpos
      walk_at "st"
      refine rs_ixT i0 ?_
      have la := h2 a (by simp)
      obtain ⟨q1, l1⟩ := a
      obtain ⟨x, y, rfl⟩ := len2 la
      have m1 : ((x, [0 - q1, 0]) : Pt) ∈ ptB (q1, [x, y]) := by simp [ptB, x0]
      have m2 : ((0 - x, [q1, 0]) : Pt) ∈ ptB (q1, [x, y]) := by simp [ptB, x0]
      have m3 : ((y, [0, 0 - q1]) : Pt) ∈ ptB (q1, [x, y]) := by simp [ptB, x1]
      have m4 : ((0 - y, [0, q1]) : Pt) ∈ ptB (q1, [x, y]) := by simp [ptB, x1]
      walk_at "go"
      walk_at "wh"
      refine ⟨(x, [0 - q1, 0]), rfl, (hfl _ m1).1, (hfl _ m1).2, hpos _ m1, ?_⟩
      walk_at "go"
      walk_at "wh"
      refine ⟨(0 - x, [q1, 0]), rfl, (hfl _ m2).1, (hfl _ m2).2, hpos _ m2, ?_⟩
      walk_at "go"
      walk_at "wh"
      refine ⟨(y, [0, 0 - q1]), rfl, (hfl _ m3).1, (hfl _ m3).2, hpos _ m3, ?_⟩
      walk_at "go"
      walk_at "wh"
      refine ⟨(0 - y, [0, q1]), rfl, (hfl _ m4).1, (hfl _ m4).2, hpos _ m4, ?_⟩
      walk_at "go"
      exact q
    · walk_at "st"
      refine rs_lenT ?_
      rw [List.length_map]
      walk_at "st"
      refine br_dec (fun e2 => ?_) (fun e2 => ?_)
      · -- a polygon
        have ef : found (a :: r) = ((a :: r).zip (rot (a :: r))).map fun z => lineP z.1 z.2 := by
          match r, e, e2 with
          | [], e, _ => exact absurd rfl e
          | [_], _, e2 => simp at e2
          | _ :: _ :: _, _, _ => exact if_neg n1
        unfold brd at q
        rw [ef] at q hfl hpos
        walk_at "st"
        have cut1 : Ab.cutD ((a :: r).map ptD) (some 1) none = ((a :: r).drop 1).map ptD := by
          rw [show (1 : Int) = ((1 : Nat) : Int) from rfl, cutD_drop _ 1 (by simp), List.map_drop]
        have cut2 : Ab.cutD ((a :: r).map ptD) none (some 1) = ((a :: r).take 1).map ptD := by
          rw [show (1 : Int) = ((1 : Nat) : Int) from rfl, cutD_take _ 1 (by simp), List.map_take]
        have erot : ((a :: r).drop 1).map ptD ++ ((a :: r).take 1).map ptD = (rot (a :: r)).map ptD := by
          unfold rot
          rw [List.map_append]
        refine lc_run (zipD ((a :: r).map ptD) ((rot (a :: r)).map ptD)) (((a :: r).zip (rot (a :: r))).map fun z => ptD (low (thr z.1 z.2))) (fun R r' => ?_) rfl ?_ ?_ ?_ ?_
        · refine rs_zip ?_
          walk_at "st"
          show arAdd (.st (.tup (Ab.cutD ((a :: r).map ptD) (some 1) none))) (.st (.tup (Ab.cutD ((a :: r).map ptD) none (some 1)))) n _
          rw [cut1, cut2]
          refine rs_addTT ?_ ?_
          · rw [← List.length_append, erot, List.length_map]
            unfold rot
            rw [List.length_append, List.length_drop, List.length_take]
            omega
          · rw [erot]
            exact r'
        · unfold zipD
          rw [List.length_map, List.length_zip, List.length_map]
          omega
        · unfold zipD
          rw [List.length_map, List.length_map, List.length_zip, List.length_zip, List.length_map, List.length_map]
        · intro i d e hd' he k k2 hk
          unfold zipD at hd'
          rw [List.zip_map, List.map_map, List.getElem?_map] at hd'
          rw [List.getElem?_map] at he
          cases hi : ((a :: r).zip (rot (a :: r)))[i]? with
          | none =>
            rw [hi] at hd'
            cases hd'
          | some z =>
            rw [hi] at hd' he
            cases hd'
            cases he
            have mz := List.mem_of_getElem? hi
            have m := List.of_mem_zip mz
            have m2 := rot_mem m.2
            have hgz := hpos _ (List.mem_map.mpr ⟨z, mz, rfl⟩)
            refine and2 rfl (and2 rfl (br_tt ?_))
            refine rs_call (rs_cons (rv_var rfl (rs_cons (rv_var rfl (rs_nil ?_)))))
            exact ⟨z.1, z.2, rfl, (hp _ m.1).1, (hp _ m2).1, h2 _ m.1, h2 _ m2, gcd_thr (hp _ m.1).2 hgz, hk _ rfl⟩
        · walk_at "st"
          have em : (((a :: r).zip (rot (a :: r))).map fun z => ptD (low (thr z.1 z.2))) = ((((a :: r).zip (rot (a :: r))).map fun z => lineP z.1 z.2).map low).map ptD := by
            rw [List.map_map, List.map_map]
            apply List.map_congr_left
            intro z hz
            have m := List.of_mem_zip hz
            show ptD (low (thr z.1 z.2)) = ptD (low (lineP z.1 z.2))
            rw [low_thr (hp _ m.1).2]
          rw [em]
          exact q
      · -- a stretch
        obtain ⟨c, rfl⟩ : ∃ c, r = [c] := by
          match r, e, e2 with
          | [c], _, _ => exact ⟨c, rfl⟩
          | [], e, _ => exact absurd rfl e
          | _ :: _ :: _, _, e2 =>
            simp at e2
            omega
        have ef : found [a, c] = [lineP a c, negP (lineP a c)] ++ strE a c := if_neg n1
        unfold brd at q
        rw [ef] at q hfl hpos
        have i1 : atI ([a, c].map ptD) 1 = some (ptD c) := atI_1 _ _ _
        have ha := hp a (by simp)
        have hc := hp c (by simp)
        have g1 := hpos (lineP a c) (by simp)
        have g2 := hpos (negP (lineP a c)) (by simp)
        have la := h2 a (by simp)
        have lc := h2 c (by simp)
        have t1 := gcd_thr ha.2 g1
        have t2 := gcd_thr (p := c) (r := a) hc.2 (by rw [line_back]; exact g2)
        have w1 : low (thr a c) = low (lineP a c) := low_thr ha.2
        have w2 : low (thr c a) = low (negP (lineP a c)) := by rw [low_thr hc.2, line_back]
        have q' : AQ (.fr ([low (thr a c), low (thr c a)].map ptD ++ (strE a c).map fun p => ptD (low p))) n := by
          rw [w1, w2]
          exact q
        have hs1 : ∀ b ∈ strE a c, PB 1400 b ∧ b.2.length ≤ 2 ∧ 0 < gcdN (b.1 :: b.2) := fun b hb => ⟨(hfl b (by simp [hb])).1, (hfl b (by simp [hb])).2, hpos b (by simp [hb])⟩
        clear q hfl hpos g1 g2 w1 w2 ef
        have bs1 := ha.1
        have bs2 := hc.1
        have q1p := ha.2
        have q2p := hc.2
        clear hp hd h2 hlen n1 e e2 hne ha hc
        obtain ⟨q1, l1⟩ := a
        obtain ⟨q2, l2⟩ := c
        obtain ⟨x, y, rfl⟩ := len2 la
        obtain ⟨u, v, rfl⟩ := len2 lc
        obtain ⟨b1, b2, b3⟩ := pb2 bs1
        obtain ⟨b4, b5, b6⟩ := pb2 bs2
        have m1 := hs1 ((u * q1 - x * q2) * x + (v * q1 - y * q2) * y, [0 - (u * q1 - x * q2) * q1, 0 - (v * q1 - y * q2) * q1]) (by simp [strE, x0, x1])
        have m2 := hs1 (0 - ((u * q1 - x * q2) * u + (v * q1 - y * q2) * v), [(u * q1 - x * q2) * q2, (v * q1 - y * q2) * q2]) (by simp [strE, x0, x1])
        have ex : 0 - (u * q1 - x * q2) * u - (v * q1 - y * q2) * v = 0 - ((u * q1 - x * q2) * u + (v * q1 - y * q2) * v) := by grind
        clear hs1
        have q2' : AQ (.fr [ptD (low (thr (q1, [x, y]) (q2, [u, v]))), ptD (low (thr (q2, [u, v]) (q1, [x, y]))), ptD (low ((u * q1 - x * q2) * x + (v * q1 - y * q2) * y, [0 - (u * q1 - x * q2) * q1, 0 - (v * q1 - y * q2) * q1])),
            ptD (low (0 - ((u * q1 - x * q2) * u + (v * q1 - y * q2) * v), [(u * q1 - x * q2) * q2, (v * q1 - y * q2) * q2]))]) n := q'
        rw [← ex] at m2 q2'
        walk_at "go"
        walk_at "wh"
        refine ⟨(q1, [x, y]), (q2, [u, v]), rfl, bs1, bs2, la, lc, t1, ?_⟩
        walk_at "go"
        walk_at "wh"
        refine ⟨(q2, [u, v]), (q1, [x, y]), rfl, bs2, bs1, lc, la, t2, ?_⟩
        walk_at "go"
        walk_at "wh"
        refine ⟨_, rfl, m1.1, m1.2.1, m1.2.2, ?_⟩
        walk_at "go"
        walk_at "wh"
        refine ⟨_, rfl, m2.1, m2.2.1, m2.2.2, ?_⟩
        walk_at "go"
        exact q2'
end
end K58
set_option Elab.async false
set_option linter.all false
set_option maxRecDepth 100000
set_option maxHeartbeats 4000000
/-! K58P8: what the readings say: mixtures. -/
namespace K58
open PySem PySem.Spec PyProof.Rows L2 Ab
local macro_rules | `(tactic| walk_at "sz") => `(tactic| repeat (first | (with_reducible exact Lb.mono (by assumption) (by decide)) | (with_reducible exact lb_lit (by decide +kernel)) | (with_reducible refine lb_sub ?_ ?_) | (with_reducible refine lb_add ?_ ?_) | (with_reducible refine lb_half ?_ ?_) | (with_reducible refine lb_neg ?_)))
local macro_rules | `(tactic| walk_at "go1") => `(tactic| ((conv => whnf); refine and2 ?x ?_; (case x => (first | exact rfl | exact ble5 rfl | (refine cmul (j := 5000) (k := 5000) ?m1 ?m2; (case m1 => walk_at "sz"); (case m2 => walk_at "sz"))))))
local macro_rules | `(tactic| walk_at "go") => `(tactic| repeat (walk_at "go1"))
local macro_rules | `(tactic| walk_at "fin") => `(tactic| ((conv => whnf); assumption))
local macro_rules | `(tactic| walk_at "wh") => `(tactic| (conv => whnf))
local macro_rules | `(tactic| walk_at "st") => `(tactic| repeat (first
  | (with_reducible refine rs_seq ?_) | (with_reducible refine rs_set ?_) | (with_reducible refine rs_par ?_) | (with_reducible refine rs_if ?_) | (with_reducible refine rs_br ?_) | (with_reducible refine rs_test ?_)
  | (with_reducible refine rs_op ?_) | (with_reducible refine rs_cb ?_) | (with_reducible refine rs_cons ?_) | (with_reducible refine rs_nil ?_) | (with_reducible refine rs_lit ?_)
  | ((with_reducible refine rv_chk ?_); refine rv_var rfl ?_) | ((with_reducible refine rv_chk ?_); refine rv_pen rfl ?_)
  | (with_reducible refine rs_ret ?_) | (with_reducible refine rs_tup ?_) | (with_reducible refine rs_lst ?_) | (with_reducible refine rs_call ?_) | (with_reducible refine rs_asg ?_) | (with_reducible refine rs_it ?_)
  | (with_reducible refine rs_next ?_) | (with_reducible refine rs_brk ?_)
  | (with_reducible refine rs_subI ?_) | (with_reducible refine rs_addI ?_) | (with_reducible refine rs_ltI ?_) | (with_reducible refine rs_leI ?_) | (with_reducible refine rs_gtI ?_) | (with_reducible refine rs_geI ?_)
  | (with_reducible refine rs_absI ?_) | (with_reducible refine rs_intI ?_) | (with_reducible refine rs_lenL ?_) | (with_reducible refine rs_tupC ?_) | (with_reducible refine rs_tupT ?_) | (with_reducible refine rs_tupL ?_)
  | (with_reducible refine eq_int ?_) | (with_reducible refine ne_int ?_) | (with_reducible refine ix_pt0 ?_) | (with_reducible refine ix_pt1 ?_) | (with_reducible refine len_seqP ?_) | (with_reducible refine len_tupI ?_)
  | (with_reducible refine rs_lenF ?_) | (with_reducible refine rs_gn ?_) | (with_reducible refine rs_sl ?_) | (with_reducible refine rs_part ?_) | (with_reducible refine rs_nopart ?_) | (with_reducible refine rs_neg1 ?_) | (with_reducible refine rs_negI ?_)
  | (with_reducible refine rs_and ?_) | (with_reducible refine rs_or ?_) | (with_reducible refine rs_not ?_) | (with_reducible refine rs_rev ?_)
  | dsimp only [AV.d, stAll, Option.map]))


/-- a comprehension whose turns draw -/
theorem lc_gen {ai : AI} {g : AG} {ae : AE} {vs : List Nat} {ρ : Ab.Env} {n : Nat} {Q : AV → Nat → Prop} (ds : List D) (P : D → Prop) (k : Nat) (hi : ∀ R : List D → Nat → Prop, R ds n → ai ρ n R) (hn : noOwn ρ vs = true) (hl : ds.length < 100000)
    (hf : ∀ (i : Nat) d n', ds[i]? = some d → n' ≤ n + k * i → ∀ (K : AV → Nat → Prop) (k2 : Prop), (∀ av e n3, stOne av = some e → P e → n3 ≤ n' + k → K av n3) → g d (wipeA ρ vs) fun ρ2 => br true (ae ρ2 n' K) k2)
    (hQ : ∀ acc n', acc.length = ds.length → (∀ d ∈ acc, P d) → n' ≤ n + k * ds.length → Q (.fr acc) n') : aLc ai g aYes ae vs ρ n Q := by
  refine hi _ ⟨hn, hl, fun i acc m => m ≤ n + k * i ∧ acc.length = i ∧ ∀ d ∈ acc, P d, ⟨by omega, rfl, by simp⟩, ?_, ?_⟩
  · rintro i d acc m hd ⟨h1, h2, h3⟩
    refine hf i d m hd h1 (fun av n3 => ∃ e, stOne av = some e ∧ (n3 ≤ n + k * (i + 1) ∧ (acc ++ [e]).length = i + 1 ∧ ∀ d ∈ acc ++ [e], P d)) (m ≤ n + k * (i + 1) ∧ acc.length = i + 1 ∧ ∀ d ∈ acc, P d) fun av e n3 hav he hn3 => ⟨e, hav, ?_, ?_, ?_⟩
    · rw [Nat.mul_succ]
      omega
    · rw [List.length_append, h2]
      rfl
    · intro d hd
      rcases List.mem_append.mp hd with hd | hd
      · exact h3 d hd
      · rw [List.mem_singleton.mp hd]
        exact he
  · rintro acc m ⟨h1, h2, h3⟩
    exact hQ acc m h2 h3 h1
theorem ints_of {pr : Int → Prop} : ∀ acc : List D, (∀ d ∈ acc, ∃ x, d = .int x ∧ pr x) → ∃ ns : List Int, acc = ns.map D.int ∧ ∀ x ∈ ns, pr x
  | [], _ => ⟨[], rfl, by simp⟩
  | d :: acc, h => by
    obtain ⟨x, rfl, hx⟩ := h d (by simp)
    obtain ⟨ns, rfl, hns⟩ := ints_of acc fun d hd => h d (by simp [hd])
    exact ⟨x :: ns, rfl, fun y hy => (List.mem_cons.mp hy).elim (fun e => e ▸ hx) (hns y)⟩
theorem for_runN {ai : AI} {g : AG} {t : AS} {A : AEnds} {ρ : Ab.Env} {n : Nat} (ds : List D) (I : Nat → Ab.Env → Nat → Prop) (hi : ∀ R : List D → Nat → Prop, R ds n → ai ρ n R) (h0 : I 0 ρ n)
    (hs : ∀ i d ρ' n', ds[i]? = some d → I i ρ' n' → g d ρ' fun ρ2 => t { A with nx := I (i + 1), ct := I (i + 1), bk := A.nx } ρ2 n') (hd : ∀ ρ' n', I ds.length ρ' n' → A.nx ρ' n') : aFor ai g t A ρ n := hi _ ⟨I, h0, hs, hd⟩
theorem sum_lb {k : Nat} : ∀ (ns : List Int), (∀ x ∈ ns, Lb k x) → ns.sum.natAbs ≤ ns.length * 2 ^ k
  | [], _ => by simp
  | x :: ns, h => by
    have h1 := sum_lb ns fun y hy => h y (by simp [hy])
    have h2 : x.natAbs < 2 ^ k := h x (by simp)
    rw [List.sum_cons, List.length_cons, Nat.succ_mul]
    omega
theorem sum_lb9 {k : Nat} {ns : List Int} (h : ∀ x ∈ ns, Lb k x) (hl : ns.length ≤ 18) : Lb (k + 5) ns.sum := by
  have h1 := sum_lb ns h
  have h2 : ns.length * 2 ^ k ≤ 18 * 2 ^ k := Nat.mul_le_mul_right _ hl
  have h3 : 2 ^ (k + 5) = 2 ^ k * 32 := by rw [Nat.pow_add]
  have h4 : 0 < 2 ^ k := Nat.two_pow_pos k
  unfold Lb
  rw [h3]
  omega
theorem sum_pos : ∀ (ns : List Int), (∀ x ∈ ns, 0 ≤ x) → (∀ x ∈ ns, x ≤ ns.sum) ∧ 0 ≤ ns.sum
  | [], _ => by simp
  | x :: ns, h => by
    obtain ⟨h1, h2⟩ := sum_pos ns fun y hy => h y (by simp [hy])
    have hx := h x (by simp)
    rw [List.sum_cons]
    refine ⟨fun y hy => ?_, by omega⟩
    rcases List.mem_cons.mp hy with rfl | hy
    · omega
    · have := h1 y hy
      omega
theorem div_lb {k : Nat} {x y : Int} (h : Lb k x) : Lb k (x / y) := Nat.lt_of_le_of_lt (Int.natAbs_ediv_le_natAbs _ _) h
theorem small_lb {k : Nat} {x : Int} (h : 0 ≤ x) (h2 : x < 2 ^ 3) (hk : 3 ≤ k) : Lb k x := by
  have : Lb 3 x := by
    unfold Lb
    omega
  exact this.mono hk
theorem rs_app {i : Nat} {ae : AE} {A : AEnds} {ρ : Ab.Env} {n : Nat} {ds : List D} (h : ρ[i]? = some (.own ds)) (k : ae ρ n fun av n1 => match stOne av with
    | some d => ds.length < 100000 ∧ A.nx (ρ.set i (.own (ds ++ [d]))) n1
    | none => False) : aApp i ae A ρ n := by
  unfold aApp
  rw [h]
  exact k
theorem rs_sto {i : Nat} {ae ak : AE} {A : AEnds} {ρ : Ab.Env} {n : Nat} {ds : List D} (h : ρ[i]? = some (.own ds)) (k : ae ρ n fun av n1 => ak ρ n1 fun ak n2 => match stOne av, ak.d with
    | some d, .int k => match ixN ds.length k with
      | some j => A.nx (ρ.set i (.own (ds.set j d))) n2
      | none => False
    | _, _ => False) : aSto i ae ak A ρ n := by
  unfold aSto
  rw [h]
  exact k
theorem rs_frz {i : Nat} {t : AS} {A : AEnds} {ρ : Ab.Env} {n : Nat} {ds : List D} (h : ρ[i]? = some (.own ds)) (k : t A (ρ.set i (.dat (.lst ds))) n) : aFrz i t A ρ n := by
  unfold aFrz
  rw [h]
  exact k
theorem rs_setO {i : Nat} {ae : AE} {A : AEnds} {ρ : Ab.Env} {n : Nat} (h : ae ρ n fun av n1 => match av with
  | .fr ds => A.nx (ρ.set i (.own ds)) n1
  | _ => False) : aSetO i ae A ρ n := h
theorem rs_lenO {ds : List D} {n : Nat} {Q : AV → Nat → Prop} (k : Q (.st (.int ds.length)) n) : arLen [.ow ds] n Q := k
theorem rs_sumF {ns : List Int} {n : Nat} {Q : AV → Nat → Prop} (k : Q (.st (.int ns.sum)) n) : arSum [.fr (ns.map D.int)] n Q := by
  show (match intsD (ns.map D.int) with
    | some ns => _
    | none => False)
  rw [intsD_map]
  exact k
theorem rs_sumL {ns : List Int} {n : Nat} {Q : AV → Nat → Prop} (k : Q (.st (.int ns.sum)) n) : arSum [.st (.lst (ns.map D.int))] n Q := by
  show (match intsD (ns.map D.int) with
    | some ns => _
    | none => False)
  rw [intsD_map]
  exact k
theorem rs_rng1 {ae : AE} {ρ : Ab.Env} {n : Nat} {R : List D → Nat → Prop} (h : ae ρ n fun av n1 => match av.d with
  | .int j => j ≤ 100000 ∧ -100000 ≤ j ∧ R ((List.range j.toNat).map fun (i : Nat) => D.int (0 + (i : Int))) n1
  | _ => False) : aRng1 ae ρ n R := h
theorem rv_own {i : Nat} {ρ : Ab.Env} {n : Nat} {Q : AV → Nat → Prop} {ds : List D} (h : ρ[i]? = some (.own ds)) (k : Q (.ow ds) n) : aVar i ρ n Q := by
  unfold aVar
  rw [h]
  exact k
section
variable (avs : List AV) (n : Nat) (AQ : AV → Nat → Prop)
theorem plain__law_p_mixture (h : asp__law_p_mixture avs n AQ) : as__law_p_mixture (E AQ) (startA 8 avs) n := by
  obtain ⟨l, m, rfl, hne, hlen, hp, hm, hn, q⟩ := h
  obtain ⟨a, r, rfl⟩ : ∃ a r, l = a :: r := by
    cases l with
    | nil => exact absurd rfl hne
    | cons a r => exact ⟨a, r, rfl⟩
  unfold as__law_p_mixture
  refine rs_seq (rs_setO ?_)
  refine lc_gen ((a :: r).map ptD) (fun d => ∃ x, d = .int x ∧ (0 ≤ x ∧ x < 2 ^ 3)) 1 (fun R r => by refine rs_it (rv_var rfl ?_); exact r) rfl (by rw [List.length_map]; omega) ?_ ?_
  · intro i d n' hd hn' K k2 hK
    have hi : i < (a :: r).length := by
      have := (List.getElem?_eq_some_iff.mp hd).1
      rw [List.length_map] at this
      exact this
    refine rs_gn (br_tt (rs_call (rs_cons (rv_pen rfl (rs_cons (rs_lit (rs_nil ?_)))))))
    refine ⟨4, rfl, lb_lit (Nat.lt_of_lt_of_le (by decide : (4 : Int).natAbs < 2 ^ 3) (Nat.pow_le_pow_right (by decide) (by decide))), by omega, fun x h0 h1 => ?_⟩
    exact hK _ _ _ rfl ⟨x, rfl, h0, by omega⟩ (by omega)
  · intro acc n1 hacc hP hn1
    rw [List.length_map] at hacc hn1
    obtain ⟨parts, rfl, hparts⟩ := ints_of acc hP
    rw [List.length_map] at hacc
    dsimp only
    refine rs_seq (rs_sto (ds := parts.map D.int) rfl ?_)
    refine rs_op (rs_lit (rs_call (rs_cons (rv_pen rfl (rs_cons (rs_lit (rs_nil ?_)))))))
    refine ⟨5, rfl, lb_lit (Nat.lt_of_lt_of_le (by decide : (5 : Int).natAbs < 2 ^ 3) (Nat.pow_le_pow_right (by decide) (by decide))), by omega, fun x h0 h1 => ?_⟩
    refine rs_addI (rs_call (rs_cons (rv_pen rfl (rs_cons (rs_cb (rs_cons (rv_own rfl (rs_nil ?_))))))))
    refine rs_lenO (rs_nil ?_)
    refine ⟨((parts.map D.int).length : Nat), rfl, Lb.mono (j := 10) ?_ (by decide), by omega, fun k hk0 hk1 => ?_⟩
    · rw [List.length_map]
      unfold Lb
      omega
    rw [List.length_map] at hk1
    have hl1 : 0 < (a :: r).length := by simp
    have hkl : k.toNat < parts.length := by omega
    have hix : ixN (parts.map D.int).length k = some k.toNat := by
      unfold ixN
      rw [List.length_map, if_pos hk0, if_pos (by omega)]
    show (match ixN (parts.map D.int).length k with
      | some j => _
      | none => False)
    rw [hix]
    dsimp only
    refine rs_frz (ds := (parts.map D.int).set k.toNat (.int (1 + x))) rfl ?_
    have eset : (parts.map D.int).set k.toNat (.int (1 + x)) = (parts.set k.toNat (1 + x)).map D.int := by rw [List.map_set]
    rw [eset]
    have hps : ∀ y ∈ parts.set k.toNat (1 + x), 0 ≤ y ∧ y < 2 ^ 3 := fun y hy => by
      rcases List.mem_or_eq_of_mem_set hy with hy | rfl
      · exact hparts y hy
      · omega
    have hpm : 1 + x ∈ parts.set k.toNat (1 + x) := List.mem_set hkl _
    have hpl : (parts.set k.toNat (1 + x)).length = (a :: r).length := by rw [List.length_set, hacc]
    generalize parts.set k.toNat (1 + x) = ps at hps hpm hpl ⊢
    generalize hn2 : n1 + 1 + 1 = n2
    have hn2' : n2 ≤ n + 20 := by omega
    clear hn2 hn1 hix eset hkl hk0 hk1 hacc hparts hP
    have hsum : 0 < ps.sum := by
      have := (sum_pos ps fun y hy => (hps y hy).1).1 _ hpm
      omega
    have hsl : Lb 13 ps.sum := sum_lb9 (k := 8) (fun y hy => small_lb (hps y hy).1 (hps y hy).2 (by decide)) (by omega)
    clear hpm
    refine rs_seq (rs_set (rs_lit ?_))
    dsimp only
    refine rs_seq ?_
    refine for_run ((a :: r).map ptD) (fun i ρ => ∃ w s4, ρ = [.pen, .dat (.tup ((a :: r).map ptD)), .dat (.lst (ps.map D.int)), .dat (.int w), s4, .un, .un, .un] ∧ 0 < w ∧ Lb (60 * i + 1) w ∧ ∀ ds, s4 ≠ .own ds) (fun R r => by refine rs_it (rv_var rfl ?_); exact r) ⟨1, .un, rfl, by decide, lb_lit (by decide), fun _ e => nomatch e⟩ ?_ ?_
    · rintro i d ρ' hd ⟨w, s4, rfl, hw, hwl, hs4⟩
      rw [List.getElem?_map] at hd
      cases hi : (a :: r)[i]? with
      | none =>
        rw [hi] at hd
        cases hd
      | some p =>
        rw [hi] at hd
        cases hd
        have hlt : i < (a :: r).length := (List.getElem?_eq_some_iff.mp hi).1
        have hpp := hp p (List.mem_of_getElem? hi)
        refine rs_gn (rs_set (rs_op (rv_var rfl (rs_op (rv_var rfl (rs_lit (ix_pt0 (rs_mulI ?_ ?_))))))))
        · exact cmul hwl hpp.1.1 (by omega) (by decide) (by omega)
        · refine ⟨rfl, w * p.1, .dat (ptD p), rfl, Int.mul_pos hw hpp.2.1, ?_, fun _ e => nomatch e⟩
          exact (hwl.mul hpp.1.1).mono (by omega)
    · rintro ρ' ⟨w, s4, rfl, hw, hwl, hs4⟩
      rw [List.length_map] at hwl
      replace hwl : Lb 1081 w := hwl.mono (by omega)
      dsimp only
      refine rs_seq (rs_setO (rs_lst (rs_nil (and2 (ble5 rfl) ?_))))
      dsimp only
      refine rs_seq ?_
      have la : a.2.length = m := (hp a (by simp)).2.2
      refine for_run ((List.range m).map fun (i : Nat) => D.int (0 + (i : Int))) (fun i ρ => ∃ ns s4 s6 s7, ρ = [.pen, .dat (.tup ((a :: r).map ptD)), .dat (.lst (ps.map D.int)), .dat (.int w), s4, .own (ns.map D.int), s6, s7] ∧ ns.length = i ∧ (∀ x ∈ ns, Lb 1200 x) ∧ (∀ ds, s4 ≠ .own ds) ∧ ∀ ds, s7 ≠ .own ds) (fun R q => ?_) ⟨[], s4, .un, .un, rfl, rfl, by simp, hs4, fun _ e => nomatch e⟩ ?_ ?_
      · refine rs_rng1 (rs_cb (rs_cons (rs_op (rs_op (rv_var rfl (rs_lit ?_))))))
        refine rs_ixT (atI_0 _ _) (rs_lit (ix_pt1 (rs_nil (len_tupI ?_))))
        rw [la]
        exact ⟨by omega, by omega, q⟩
      · rintro i d ρ' hd ⟨ns, s4, s6, s7, rfl, hnl, hns, hs4, hs7⟩
        rw [List.getElem?_map] at hd
        have him : i < m := by
          rcases Nat.lt_or_ge i m with h | h
          · exact h
          · rw [List.getElem?_eq_none (by rw [List.length_range]; exact h)] at hd
            cases hd
        rw [List.getElem?_range him] at hd
        cases hd
        refine rs_gn (rs_app (ds := ns.map D.int) rfl (rs_cb (rs_cons ?_)))
        refine lc_run (zipD (ps.map D.int) ((a :: r).map ptD)) ((ps.zip (a :: r)).map fun z => D.int (z.1 * z.2.2.getD i 0 * (w / z.2.1))) (fun R q => ?_) ?_ ?_ ?_ ?_ ?_
        · refine rs_zip (rs_cons (rv_var rfl (rs_cons (rv_var rfl (rs_nil ?_)))))
          exact q
        · cases s4 <;> cases s7 <;> first | rfl | exact absurd rfl (hs4 _) | exact absurd rfl (hs7 _)
        · unfold zipD
          rw [List.length_map, List.length_zip, List.length_map]
          omega
        · unfold zipD
          rw [List.length_map, List.length_map, List.length_zip, List.length_zip, List.length_map, List.length_map]
        · intro j d e hd he k k2 hk
          unfold zipD at hd
          rw [List.zip_map, List.map_map, List.getElem?_map] at hd
          rw [List.getElem?_map] at he
          cases hi : (ps.zip (a :: r))[j]? with
          | none =>
            rw [hi] at hd
            cases hd
          | some z =>
            rw [hi] at hd he
            cases hd
            cases he
            have mz := List.of_mem_zip (List.mem_of_getElem? hi)
            have h1 := hps _ mz.1
            have h2 := hp _ mz.2
            have hil : i < z.2.2.length := by rw [h2.2.2]; exact him
            have eg : z.2.2.getD i 0 = z.2.2[i] := by rw [List.getD_eq_getElem?_getD, List.getElem?_eq_getElem hil]; rfl
            have hx : Lb 60 (z.2.2.getD i 0) := by
              rw [eg]
              exact h2.1.2 _ (List.getElem_mem hil)
            have hz1 : Lb 3 z.1 := small_lb h1.1 h1.2 (by decide)
            have hix : atI (z.2.2.map D.int) (0 + (i : Int)) = some (.int (z.2.2.getD i 0)) := by
              rw [Int.zero_add]
              refine atI_nat ?_
              rw [List.getElem?_map, List.getElem?_eq_getElem hil, eg]
              rfl
            refine and2 rfl (and2 rfl (br_tt ?_))
            refine rs_op (rs_op (rv_var rfl (rs_op (rs_op (rv_var rfl (rs_lit (ix_pt1 (rv_var rfl (rs_ixT hix ?_)))))))))
            refine rs_mulI (cmul hz1 hx) (rs_op (rv_var rfl (rs_op (rv_var rfl (rs_lit (ix_pt0 (rs_divI (cdiv h2.2.1 h2.1.1) ?_)))))))
            exact rs_mulI (cmul (hz1.mul hx) (div_lb hwl)) (hk _ rfl)
        · have em : ((ps.zip (a :: r)).map fun z => D.int (z.1 * z.2.2.getD i 0 * (w / z.2.1))) = ((ps.zip (a :: r)).map fun z => z.1 * z.2.2.getD i 0 * (w / z.2.1)).map D.int := by rw [List.map_map]; rfl
          rw [em]
          refine rs_nil (rs_sumF ?_)
          show (ns.map D.int).length < 100000 ∧ _
          refine ⟨by rw [List.length_map]; omega, rfl, ns ++ [((ps.zip (a :: r)).map fun z => z.1 * z.2.2.getD i 0 * (w / z.2.1)).sum], s4, .dat (.int (0 + (i : Int))), s7, ?_, ?_, ?_, hs4, hs7⟩
          · rw [List.map_append]
            rfl
          · rw [List.length_append, hnl]
            rfl
          · intro x hx
            rcases List.mem_append.mp hx with hx | hx
            · exact hns x hx
            · rw [List.mem_singleton.mp hx]
              refine (sum_lb9 (k := 3 + 60 + 1081) (fun y hy => ?_) ?_).mono (by decide)
              · obtain ⟨z, hz, rfl⟩ := List.mem_map.mp hy
                have mz := List.of_mem_zip hz
                have h1 := hps _ mz.1
                have h2 := hp _ mz.2
                have hil : i < z.2.2.length := by rw [h2.2.2]; exact him
                have eg : z.2.2.getD i 0 = z.2.2[i] := by rw [List.getD_eq_getElem?_getD, List.getElem?_eq_getElem hil]; rfl
                have hx : Lb 60 (z.2.2.getD i 0) := by
                  rw [eg]
                  exact h2.1.2 _ (List.getElem_mem hil)
                exact ((small_lb (k := 3) h1.1 h1.2 (by decide)).mul hx).mul (div_lb hwl)
              · rw [List.length_map, List.length_zip]
                omega
      · rintro ρ' ⟨ns, s4, s6, s7, rfl, hnl, hns, hs4, hs7⟩
        rw [List.length_map, List.length_range] at hnl
        dsimp only
        refine rs_frz (ds := ns.map D.int) rfl ?_
        refine rs_ret (rs_call (rs_cons (rs_op (rv_var rfl (rs_cb (rs_cons (rv_var rfl (rs_nil (rs_sumL (rs_mulI (cmul hwl hsl) ?_))))))))))
        refine rs_cons (rv_var rfl (rs_nil ?_))
        have hq : Lb 1400 (w * ps.sum) := (hwl.mul hsl).mono (by decide)
        have hns' : ∀ x ∈ ns, Lb 1400 x := fun x hx => (hns x hx).mono (by decide)
        refine ⟨w * ps.sum, ns, rfl, Int.mul_pos hw hsum, hq, hns', by omega, ?_⟩
        exact q (low (w * ps.sum, ns)) n2 (by omega) (low_pb ⟨hq, hns'⟩) (by rw [low_len]; exact hnl)
end
end K58
set_option Elab.async false
set_option linter.all false
set_option maxRecDepth 100000
set_option maxHeartbeats 4000000
/-! K58P9: what the reading of law says: the parts of a turn. -/
namespace K58
open PySem PySem.Spec PyProof.Rows L2 Ab
local macro_rules | `(tactic| walk_at "sz") => `(tactic| repeat (first | (with_reducible exact Lb.mono (by assumption) (by decide)) | (with_reducible exact lb_lit (by decide +kernel)) | (with_reducible refine lb_sub ?_ ?_) | (with_reducible refine lb_add ?_ ?_) | (with_reducible refine lb_half ?_ ?_) | (with_reducible refine lb_neg ?_)))
local macro_rules | `(tactic| walk_at "go1") => `(tactic| ((conv => whnf); refine and2 ?x ?_; (case x => (first | exact rfl | exact ble5 rfl | (refine cmul (j := 5000) (k := 5000) ?m1 ?m2; (case m1 => walk_at "sz"); (case m2 => walk_at "sz"))))))
local macro_rules | `(tactic| walk_at "go") => `(tactic| repeat (walk_at "go1"))
local macro_rules | `(tactic| walk_at "fin") => `(tactic| ((conv => whnf); assumption))
local macro_rules | `(tactic| walk_at "wh") => `(tactic| (conv => whnf))
local macro_rules | `(tactic| walk_at "st") => `(tactic| repeat (first
  | (with_reducible refine rs_seq ?_) | (with_reducible refine rs_set ?_) | (with_reducible refine rs_par ?_) | (with_reducible refine rs_if ?_) | (with_reducible refine rs_br ?_) | (with_reducible refine rs_test ?_)
  | (with_reducible refine rs_op ?_) | (with_reducible refine rs_cb ?_) | (with_reducible refine rs_cons ?_) | (with_reducible refine rs_nil ?_) | (with_reducible refine rs_lit ?_)
  | ((with_reducible refine rv_chk ?_); refine rv_var rfl ?_) | ((with_reducible refine rv_chk ?_); refine rv_pen rfl ?_)
  | (with_reducible refine rs_ret ?_) | (with_reducible refine rs_tup ?_) | (with_reducible refine rs_lst ?_) | (with_reducible refine rs_call ?_) | (with_reducible refine rs_asg ?_) | (with_reducible refine rs_it ?_)
  | (with_reducible refine rs_next ?_) | (with_reducible refine rs_brk ?_)
  | (with_reducible refine rs_subI ?_) | (with_reducible refine rs_addI ?_) | (with_reducible refine rs_ltI ?_) | (with_reducible refine rs_leI ?_) | (with_reducible refine rs_gtI ?_) | (with_reducible refine rs_geI ?_)
  | (with_reducible refine rs_absI ?_) | (with_reducible refine rs_intI ?_) | (with_reducible refine rs_lenL ?_) | (with_reducible refine rs_tupC ?_) | (with_reducible refine rs_tupT ?_) | (with_reducible refine rs_tupL ?_)
  | (with_reducible refine eq_int ?_) | (with_reducible refine ne_int ?_) | (with_reducible refine ix_pt0 ?_) | (with_reducible refine ix_pt1 ?_) | (with_reducible refine len_seqP ?_) | (with_reducible refine len_tupI ?_)
  | (with_reducible refine rs_lenF ?_) | (with_reducible refine rs_gn ?_) | (with_reducible refine rs_sl ?_) | (with_reducible refine rs_part ?_) | (with_reducible refine rs_nopart ?_) | (with_reducible refine rs_neg1 ?_) | (with_reducible refine rs_negI ?_)
  | (with_reducible refine rs_and ?_) | (with_reducible refine rs_or ?_) | (with_reducible refine rs_not ?_) | (with_reducible refine rs_rev ?_)
  | dsimp only [AV.d, stAll, Option.map]))


def lapA : AS := (aSeq (aSet 10 (aCall asp__law_pick (aCons (aVar 1) (aCons (aLst (aCons (aC (.int 1)) (aCons (aC (.int 1)) (aCons (aC (.int 2)) (aCons (aC (.int 7)) (aCons (aC (.int 30)) (aCons (aOp arAdd (aOp arPow (aC (.int 10)) (aC (.int 6))) (aC (.int 3))) aNil))))))) aNil))))
  (aApp 4 (aCall asp__law_p_point (aCons (aVar 10) (aCons (aLc (aRng1 (aVar 3)) (aGn 15) aYes (aOp arSub (aCall asp__law_draw (aCons (aVar 1) (aCons (aOp arAdd (aOp arMul (aOp arMul (aC (.int 2)) (aVar 9)) (aVar 10)) (aC (.int 1))) aNil))) (aOp arMul (aVar 9) (aVar 10))) [15]) aNil)))))
def cornA : AS := (aSet 6 (aIf (aTest (aOp (arEqD false) (aVar 3) (aC (.int 2)))) (aCall asp__law_p_around (aCons (aCall asp__law_p_sorted (aCons (aVar 4) aNil)) aNil)) (aCB arTuple (aCons (aOp arAdd (aLst (aCons (aOp arIx (aCall asp__law_p_sorted (aCons (aVar 4) aNil)) (aC (.int 0))) aNil)) (aSl (aSl (aCall asp__law_p_sorted (aCons (aVar 4) aNil)) (aPart (aC (.int 1))) aNoPart) (aPart (aUn arNeg (aC (.int 1)))) aNoPart)) aNil))))
def chkA : AS := (aIfS (aOr (aTest (aOp (arEqD true) (aLc (aIt (aVar 7)) (aGn 13) aYes (aCB arTuple (aCons (aVar 13) aNil)) [13]) (aVar 8))) (aTest (aOp (arEqD true) (aCallK0 asp_borders (fun l => l) (aCons (aCB arList (aCons (aVar 6) aNil)) aNil)) (aVar 7)))) (aRet (aC (.bl false))) aNext)
def ptA : AS := (aSeq (aSet 11 (aIf (aTest (aOp arLt (aVar 5) (aC (.int 4)))) (aCall asp__law_p_mixture (aCons (aVar 1) (aCons (aVar 6) aNil))) (aCall asp__law_pick (aCons (aVar 1) (aCons (aOp arAdd (aVar 4) (aLst (aCons (aCall asp__law_p_point (aCons (aC (.int 5)) (aCons (aLc (aRng1 (aVar 3)) (aGn 15) aYes (aOp arSub (aCall asp__law_draw (aCons (aVar 1) (aCons (aOp arMul (aC (.int 20)) (aVar 9)) aNil))) (aOp arMul (aC (.int 10)) (aVar 9))) [15]) aNil))) aNil))) aNil)))))
  (aSeq (aSet 12 (aLc (aIt (aVar 8)) (aGn 13) aYes (aCall asp__law_p_value (aCons (aVar 13) (aCons (aVar 11) aNil))) [13]))
  (aIfS (aOr (aTest (aOp (arEqD true) (aCB arReprB (aCons (aCall asp_is_in (aCons (aVar 6) (aCons (aVar 11) aNil))) aNil)) (aCB arReprB (aCons (aOp arLe (aCB arMax (aCons (aVar 12) aNil)) (aC (.int 0))) aNil)))) (aTest (aOp (arEqD true) (aCB arReprB (aCons (aCallK0 asp_is_inner (fun l => l.reverse) (aCons (aVar 11) (aCons (aVar 6) aNil))) aNil)) (aCB arReprB (aCons (aOp arLt (aCB arMax (aCons (aVar 12) aNil)) (aC (.int 0))) aNil))))) (aRet (aC (.bl false))) aNext)))
def lastA : AS := (aIfS (aOr (aTest (aOp (arEqD true) (aLc (aIt (aVar 4)) (aGn 11) (aNot (aTest (aCall asp_is_in (aCons (aVar 6) (aCons (aVar 11) aNil))))) (aVar 11) [11]) (aLst aNil))) (aTest (aOp (arEqD true) (aLc (aIt (aVar 6)) (aGn 14) (aTest (aCall asp_is_inner (aCons (aVar 6) (aCons (aVar 14) aNil)))) (aVar 14) [14]) (aLst aNil)))) (aRet (aC (.bl false))) aNext)
def tailA : AS := (aSeq cornA (aSeq (aSet 7 (aCall asp_borders (aCons (aVar 6) aNil))) (aSeq (aSet 8 (aCall asp__law_b_lines (aCons (aVar 6) aNil))) (aSeq chkA (aSeq (aFor (aRng1 (aC (.int 8))) (aGn 5) ptA) lastA)))))
abbrev LE (s0 s2 s3 s4 s5 s6 s7 s8 s9 s10 s11 s12 : Sl) : Ab.Env := [s0, .pen, s2, s3, s4, s5, s6, s7, s8, s9, s10, s11, s12, .un, .un, .un]
theorem nos {ρ : Ab.Env} {i : Nat} {s : Sl} (h : ρ[i]? = some s) (hs : ∀ ds, s ≠ .own ds) : noOwn ρ [i] = true := by
  unfold noOwn
  rw [h]
  cases s <;> first | rfl | exact absurd rfl (hs _)
theorem rs_powI {i j : Int} {n : Nat} {Q : AV → Nat → Prop} (h : CPow i j) (k : Q (.st (.int (i ^ j.toNat))) n) : arPow (.st (.int i)) (.st (.int j)) n Q := ⟨h, k⟩
theorem rs_callK0 {asp : ASp} {g : List AV → List AV} {ak : AA} {ρ : Ab.Env} {n : Nat} {Q : AV → Nat → Prop} (h : ak ρ n fun aks n1 => match argAll (g aks) with
  | some bs => asp bs n1 Q
  | none => False) : aCallK0 asp g ak ρ n Q := h
section
variable {m : Nat} {A : AEnds} {s0 s2 s3 s4 s5 s6 s7 s8 s9 s10 s11 s12 : Sl} {n : Nat}
/-- one more point -/
theorem run_lap (hm : m = 1 ∨ m = 2) {pts : List Pt} (hp : ∀ p ∈ pts, OkP m p) (hl : pts.length ≤ 9) {wide : Int} (hw : 0 < wide) (hwl : Lb 30 wide) (hn : n + 10 < 1000000)
    (k : ∀ p n' d10, n' ≤ n + 3 → OkP m p → A.nx (LE s0 s2 (.dat (.int m)) (.own ((pts ++ [p]).map ptD)) s5 s6 s7 s8 (.dat (.int wide)) (.dat (.int d10)) s11 s12) n') :
    lapA A (LE s0 s2 (.dat (.int m)) (.own (pts.map ptD)) s5 s6 s7 s8 (.dat (.int wide)) s10 s11 s12) n := by
  unfold lapA
  refine rs_seq (rs_set (rs_call (rs_cons (rv_pen rfl (rs_cons ?_)))))
  refine rs_lst (rs_cons (rs_lit (rs_cons (rs_lit (rs_cons (rs_lit (rs_cons (rs_lit (rs_cons (rs_lit (rs_cons (rs_op (rs_op (rs_lit (rs_lit (rs_powI ⟨by decide, by decide, by decide⟩ ?_))))))))))))))))
  refine rs_lit (rs_addI (rs_nil (and2 (ble5 rfl) (rs_nil ?_))))
  refine ⟨_, rfl, by simp, Nat.le_of_ble_eq_true rfl, by omega, fun d hd => ?_⟩
  have hq : ∃ q : Int, d = .int q ∧ 0 < q ∧ Lb 20 q := by
    have : d = .int 1 ∨ d = .int 1 ∨ d = .int 2 ∨ d = .int 7 ∨ d = .int 30 ∨ d = .int (10 ^ (6 : Int).toNat + 3) := by simpa using hd
    rcases this with rfl | rfl | rfl | rfl | rfl | rfl <;> exact ⟨_, rfl, by decide, lb_lit (by decide)⟩
  obtain ⟨q, rfl, hq, hql⟩ := hq
  dsimp only
  refine rs_app (ds := pts.map ptD) rfl ?_
  refine rs_call (rs_cons (rv_var rfl (rs_cons ?_)))
  have w2 : CMulW 2 wide := cmul (j := 3) (k := 30) (lb_lit (by decide)) hwl
  have w3 : CMulW (2 * wide) q := cmul ((lb_lit (k := 3) (x := 2) (by decide)).mul hwl) hql
  have w4 : CMulW wide q := cmul hwl hql
  have hwq : 0 < wide * q := Int.mul_pos hw hq
  have hmm : m ≤ 2 := by omega
  refine lc_gen ((List.range m).map fun (i : Nat) => D.int (0 + (i : Int))) (fun d => ∃ x, d = .int x ∧ Lb 55 x) 1 (fun R r => ?_) rfl (by rw [List.length_map, List.length_range]; omega) ?_ ?_
  · refine rs_rng1 (rv_var rfl ?_)
    exact ⟨by omega, by omega, r⟩
  · intro i d n' hd hn' K k2 hK
    have hi : i < m := by
      have := (List.getElem?_eq_some_iff.mp hd).1
      rw [List.length_map, List.length_range] at this
      exact this
    refine rs_gn (br_tt (rs_op (rs_call (rs_cons (rv_pen rfl (rs_cons (rs_op (rs_op (rs_op (rs_lit (rv_var rfl (rs_mulI w2 (rv_var rfl (rs_mulI w3 (rs_lit (rs_addI (rs_nil ?_)))))))))))))))))
    have h1 : Lb 55 (2 * wide * q + 1) := (((lb_lit (k := 3) (x := 2) (by decide)).mul hwl).mul hql |>.add (lb_lit (by decide))).mono (by decide)
    refine ⟨2 * wide * q + 1, rfl, h1.mono (by decide), by omega, fun r h0 h2 => ?_⟩
    refine rs_op (rv_var rfl (rv_var rfl (rs_mulI w4 (rs_subI ?_))))
    refine hK _ _ _ rfl ⟨_, rfl, ?_⟩ (by omega)
    have e : 2 * wide * q = 2 * (wide * q) := by rw [Int.mul_assoc]
    rw [e] at h1 h2
    unfold Lb at *
    omega
  · intro acc n1 hacc hP hn1
    rw [List.length_map, List.length_range] at hacc hn1
    obtain ⟨ns, rfl, hns⟩ := ints_of acc hP
    rw [List.length_map] at hacc
    refine rs_nil ?_
    refine ⟨q, ns, rfl, hq, hql.mono (by decide), fun x hx => (hns x hx).mono (by decide), by omega, ?_⟩
    refine ⟨by rw [List.length_map]; omega, ?_⟩
    have ok : OkP m (low (q, ns)) := ⟨low_pb ⟨hql.mono (by decide), fun x hx => (hns x hx).mono (by decide)⟩, low_nm hq, by rw [low_len]; exact hacc⟩
    have := k (low (q, ns)) n1 q (by omega) ok
    rw [List.map_append] at this
    exact this
/-! corners -/
theorem cutD_last (ds : List D) : Ab.cutD ds (some (-1)) none = ds.drop (ds.length - 1) := by
  unfold Ab.cutD
  rw [sIx_m1, HT.sIx_none]
  apply List.take_of_length_le
  rw [List.length_drop]
  exact Nat.le_refl _
def corners (m : Nat) (pts : List Pt) : List Pt := if m = 2 then around (srt pts) else (srt pts).take 1 ++ ((srt pts).drop 1).drop (((srt pts).drop 1).length - 1)
theorem srt_ne {pts : List Pt} (hm : m = 1 ∨ m = 2) (hp : ∀ p ∈ pts, OkP m p) (hne : pts ≠ []) : srt pts ≠ [] := by
  intro e
  obtain ⟨a, r, rfl⟩ : ∃ a r, pts = a :: r := by
    cases pts with
    | nil => exact absurd rfl hne
    | cons a r => exact ⟨a, r, rfl⟩
  have := ((srt_ok hm hp).1 a).mpr (by simp)
  rw [e] at this
  simp at this
theorem chain_len (up : Bool) (l : List Pt) : (chain up l).length ≤ l.length := by
  have := (chain_sub up l []).2
  simpa [chain] using this
theorem around_len (l : List Pt) : (around l).length ≤ 2 * l.length := by
  unfold around
  split
  · omega
  · rw [List.length_append, List.length_reverse, List.length_reverse, List.length_dropLast, List.length_drop, List.length_reverse]
    have h1 := chain_len true l
    have h2 := chain_len false l
    omega
theorem corners_hull {pts : List Pt} (hm : m = 1 ∨ m = 2) (hp : ∀ p ∈ pts, OkP m p) (hne : pts ≠ []) (hl : pts.length ≤ 9) : Hull m (srt pts) (corners m pts) ∧ (corners m pts).length ≤ 18 ∧ corners m pts ≠ [] := by
  have hs := srt_ok hm hp
  have hsl := srt_len pts
  have hsn := srt_ne hm hp hne
  have hsp : ∀ x ∈ srt pts, OkP m x := fun x hx => hp x ((hs.1 x).mp hx)
  have key : Hull m (srt pts) (corners m pts) ∧ (corners m pts).length ≤ 18 := by
    unfold corners
    generalize srt pts = l at hs hsl hsn hsp
    have hsl' : l.length ≤ 9 := Nat.le_trans hsl hl
    have hss := hs.2
    clear hs hsl hp hne hl
    rcases hm with rfl | rfl
    · rw [if_neg (by decide)]
      obtain ⟨a, r, rfl⟩ : ∃ a r, l = a :: r := by
        cases l with
        | nil => exact absurd rfl hsn
        | cons a r => exact ⟨a, r, rfl⟩
      show Hull 1 (a :: r) ([a] ++ r.drop (r.length - 1)) ∧ ([a] ++ r.drop (r.length - 1)).length ≤ 18
      rcases List.eq_nil_or_concat r with rfl | ⟨w, z, rfl⟩
      · exact ⟨⟨fun x hx => hx, .inl ⟨a, rfl, fun t ht => by simpa using ht⟩⟩, by simp⟩
      · have e : (w ++ [z]).drop ((w ++ [z]).length - 1) = [z] := by
          rw [List.length_append]
          simp
        rw [List.concat_eq_append] at hss hsp ⊢
        rw [e]
        refine ⟨⟨fun x hx => ?_, .inr (.inl ⟨a, z, rfl, ?_, fun t ht => ?_⟩)⟩, by simp⟩
        · have : x = a ∨ x = z := by simpa using hx
          rcases this with rfl | rfl <;> simp
        · rw [Srt, List.pairwise_cons] at hss
          exact hss.1 z (by simp)
        · have hside : side a z t = 0 := by
            have l1 := x1_one (hsp a (by simp)).len
            have l2 := x1_one (hsp z (by simp)).len
            have l3 := x1_one (hsp t ht).len
            unfold side
            rw [l1, l2, l3]
            grind
          rw [Srt, List.pairwise_cons, List.pairwise_append] at hss
          refine ⟨?_, ?_, hside⟩
          · rcases List.mem_cons.mp ht with rfl | ht
            · rw [om_self]
              omega
            · exact Int.le_of_lt (hss.1 t ht)
          · rcases List.mem_cons.mp ht with rfl | ht
            · exact Int.le_of_lt (hss.1 z (by simp))
            · rcases List.mem_append.mp ht with ht | ht
              · exact Int.le_of_lt (hss.2.2.2 t ht z (by simp))
              · rw [List.mem_singleton.mp ht, om_self]
                omega
    · rw [if_pos rfl]
      refine ⟨around_hull hsp hss hsn (by omega), ?_⟩
      have := around_len l
      omega
  refine ⟨key.1, key.2, ?_⟩
  intro e
  rcases key.1.is with ⟨a, h, _⟩ | ⟨a, z, h, _⟩ | ⟨_, h, _, _⟩
  · rw [h] at e
    cases e
  · rw [h] at e
    cases e
  · rw [e] at h
    simp at h

theorem run_corn (hm : m = 1 ∨ m = 2) {pts : List Pt} (hp : ∀ p ∈ pts, OkP m p) (hne : pts ≠ []) (hl : pts.length ≤ 9)
    (k : A.nx (LE s0 s2 (.dat (.int m)) (.dat (.lst (pts.map ptD))) s5 (.dat (.tup ((corners m pts).map ptD))) s7 s8 s9 s10 s11 s12) n) :
    cornA A (LE s0 s2 (.dat (.int m)) (.dat (.lst (pts.map ptD))) s5 s6 s7 s8 s9 s10 s11 s12) n := by
  have hs := srt_ok hm hp
  have hsl := srt_len pts
  have hsn := srt_ne hm hp hne
  have callS : ∀ (Q : AV → Nat → Prop), Q (.st (.lst ((srt pts).map ptD))) n → aCall asp__law_p_sorted (aCons (aVar 4) aNil) (LE s0 s2 (.dat (.int m)) (.dat (.lst (pts.map ptD))) s5 s6 s7 s8 s9 s10 s11 s12) n Q := fun Q hQ => by
    refine rs_call (rs_cons (rv_var rfl (rs_nil ?_)))
    exact ⟨pts, rfl, fun p h => ⟨(hp p h).pb.mono (by decide), by rw [(hp p h).len]; omega⟩, by omega, hQ⟩
  unfold cornA
  refine rs_set (rs_br (rs_test (rs_op (rv_var rfl (rs_lit (eq_int (br_beq (fun e => ?_) (fun e => ?_))))))))
  · have m2 : m = 2 := by omega
    subst m2
    refine rs_call (rs_cons (callS _ (rs_nil ?_)))
    refine ⟨srt pts, rfl, fun p h => ?_, by omega, ?_⟩
    · have := hp p ((hs.1 p).mp h)
      exact ⟨this.pb.mono (by decide), this.len⟩
    · have e2 : corners 2 pts = around (srt pts) := if_pos rfl
      rw [e2] at k
      exact k
  · have m1 : m = 1 := by omega
    subst m1
    obtain ⟨a, r, hr⟩ : ∃ a r, srt pts = a :: r := by
      cases h : srt pts with
      | nil => exact absurd h hsn
      | cons a r => exact ⟨a, r, rfl⟩
    have e2 : corners 1 pts = [a] ++ r.drop (r.length - 1) := by
      unfold corners
      rw [if_neg (by decide), hr]
      rfl
    rw [hr] at callS hsl
    rw [e2] at k
    refine rs_cb (rs_cons (rs_op (rs_lst (rs_cons (rs_op (callS _ (rs_lit (rs_ixL (atI_0 _ _) (rs_nil (and2 (ble5 rfl) ?_))))))))))
    refine rs_sl (rs_sl (callS _ (rs_part (rs_lit (rs_nopart (rs_part (rs_neg1 (rs_lit (rs_negI (rs_nopart ?_)))))))))) 
    have c1 : Ab.cutD ((a :: r).map ptD) (some 1) none = r.map ptD := by
      rw [show (1 : Int) = ((1 : Nat) : Int) from rfl, cutD_drop _ 1 (by simp)]
      rfl
    show arAdd (.fr [ptD a]) (.fr (Ab.cutD (Ab.cutD ((a :: r).map ptD) (some 1) none) (some (-1)) none)) n _
    rw [c1, cutD_last]
    refine rs_addFF ?_ (rs_nil (rs_tupC ?_))
    · rw [List.length_drop, List.length_map]
      simp at hsl ⊢
      omega
    · have e3 : [ptD a] ++ (r.map ptD).drop ((r.map ptD).length - 1) = ([a] ++ r.drop (r.length - 1)).map ptD := by
        rw [List.map_append, List.map_drop, List.length_map]
        rfl
      rw [e3]
      exact k
theorem itk_lns (l : List Pt) : itk 3 (.lst (l.map ptD)) = true := itk_pts l
theorem found_ne {l : List Pt} (h : l ≠ []) : found l ≠ [] := by
  obtain ⟨a, r, rfl⟩ : ∃ a r, l = a :: r := by
    cases l with
    | nil => exact absurd rfl h
    | cons a r => exact ⟨a, r, rfl⟩
  by_cases h1 : a.2.length = 1
  · have e : found (a :: r) = endsP a ((a :: r).getLastD a) := if_pos h1
    rw [e]
    simp [endsP]
  · match r with
    | [] =>
      have e : found [a] = ptB a := if_neg h1
      rw [e]
      simp [ptB]
    | [b] =>
      have e : found [a, b] = [lineP a b, negP (lineP a b)] ++ strE a b := if_neg h1
      rw [e]
      simp
    | b :: c :: r =>
      have e : found (a :: b :: c :: r) = ((a :: b :: c :: r).zip (rot (a :: b :: c :: r))).map fun z => lineP z.1 z.2 := if_neg h1
      rw [e]
      intro e
      have e2 := congrArg List.length e
      rw [List.length_map, List.length_zip] at e2
      simp [rot] at e2
theorem rs_listT {ds : List D} {n : Nat} {Q : AV → Nat → Prop} (k : Q (.fr ds) n) : arList [.st (.tup ds)] n Q := k
theorem run_chk {pts c : List Pt} (hg : GoodC c) (k : A.nx (LE s0 s2 s3 s4 s5 (.dat (.tup (c.map ptD))) (.dat (.lst ((brd c).map ptD))) (.dat (.lst ((brd c).map ptD))) s9 s10 s11 s12) n) :
    chkA A (LE s0 s2 s3 s4 s5 (.dat (.tup (c.map ptD))) (.dat (.lst ((brd c).map ptD))) (.dat (.lst ((brd c).map ptD))) s9 s10 s11 s12) n := by
  have hbl := brd_len hg
  unfold chkA
  refine rs_if (rs_or (rs_test (rs_op ?_)))
  refine lc_run ((brd c).map ptD) ((brd c).map ptD) (fun R r => ?_) rfl ?_ rfl ?_ ?_
  · exact rs_it (rv_var rfl r)
  · rw [List.length_map]
    omega
  · intro i d e hd he k k2 hk
    rw [hd] at he
    cases he
    rw [List.getElem?_map] at hd
    cases hi : (brd c)[i]? with
    | none =>
      rw [hi] at hd
      cases hd
    | some p =>
      rw [hi] at hd
      cases hd
      refine rs_gn (br_tt (rs_cb (rs_cons (rv_var rfl (rs_nil (rs_tupT ?_))))))
      exact hk _ rfl
  · refine rv_var rfl (ne_itk (k := 3) (j := 3) (p := True) (itk_lns _) (itk_lns _) ⟨fun _ => trivial, fun _ => rfl⟩ ?_)
    refine br_ff (rs_test (rs_op ?_))
    refine rs_callK0 (rs_cons (rs_cb (rs_cons (rv_var rfl (rs_nil ?_)))))
    refine rs_listT (rs_nil ?_)
    refine ⟨true, c, rfl, hg, ?_⟩
    refine rv_var rfl (ne_itk (k := 3) (j := 3) (p := True) (itk_lns _) (itk_lns _) ⟨fun _ => trivial, fun _ => rfl⟩ ?_)
    exact br_ff (rs_next k)
theorem filter_none {l : List Pt} {p : Pt → Bool} (h : ∀ x ∈ l, p x = false) : (l.filter p).map ptD = [] := by
  rw [List.filter_eq_nil_iff.mpr fun x hx => by rw [h x hx]; exact Bool.false_ne_true]
  rfl
theorem run_last (hm : m = 1 ∨ m = 2) {pts c T : List Pt} (hT : ∀ x ∈ T, OkP m x) (hh : Hull m T c) (hpt : ∀ p ∈ pts, p ∈ T) (hl : pts.length ≤ 9) (hs11 : ∀ ds, s11 ≠ .own ds)
    (k : A.nx (LE s0 s2 s3 (.dat (.lst (pts.map ptD))) s5 (.dat (.tup (c.map ptD))) s7 s8 s9 s10 s11 s12) n) :
    lastA A (LE s0 s2 s3 (.dat (.lst (pts.map ptD))) s5 (.dat (.tup (c.map ptD))) s7 s8 s9 s10 s11 s12) n := by
  have hg := hull_good hm hT hh
  unfold lastA
  refine rs_if (rs_or (rs_test (rs_op ?_)))
  refine lc_filterA pts ptD (fun t => !(brd c).all fun p => decide (val p t ≤ 0)) ptD (fun R r => ?_) (nos rfl hs11) (by omega) ?_ ?_
  · exact rs_it (rv_var rfl r)
  · intro t ht k1 k2 h1 h2 ko hko
    have hOk := hT t (hpt t ht)
    refine rs_gn (rs_not (rs_test (rs_call (rs_cons (rv_var rfl (rs_cons (rv_var rfl (rs_nil ?_))))))))
    refine ⟨false, c, t, rfl, hg, hOk.pb.mono (by decide), ?_⟩
    show br (!(brd c).all fun p => decide (val p t ≤ 0)) _ _
    cases hb : (!(brd c).all fun p => decide (val p t ≤ 0)) with
    | true => exact br_tt (rv_var rfl (hko _ rfl (h1 hb)))
    | false => exact br_ff (h2 hb)
  · have e1 : (pts.filter fun t => !(brd c).all fun p => decide (val p t ≤ 0)).map ptD = [] := filter_none fun t ht => by
      rw [brd_in hm hT hh (hpt t ht)]
      rfl
    rw [e1]
    refine rs_lst (rs_nil (and2 (ble5 rfl) ?_))
    refine ne_itk (d := .lst []) (e := .lst []) (k := 3) (j := 3) (p := True) rfl rfl ⟨fun _ => trivial, fun _ => rfl⟩ ?_
    refine br_ff (rs_test (rs_op ?_))
    refine lc_filterA c ptD (fun t => (brd c).all fun p => decide (val p t < 0)) ptD (fun R r => ?_) rfl ?_ ?_ ?_
    · exact rs_it (rv_var rfl r)
    · have := hg.2.1
      omega
    · intro t ht k1 k2 h1 h2 ko hko
      have hOk := hT t (hh.sub t ht)
      refine rs_gn (rs_test (rs_call (rs_cons (rv_var rfl (rs_cons (rv_var rfl (rs_nil ?_)))))))
      refine ⟨false, c, t, rfl, hg, hOk.pb.mono (by decide), ?_⟩
      show br ((brd c).all fun p => decide (val p t < 0)) _ _
      cases hb : ((brd c).all fun p => decide (val p t < 0)) with
      | true => exact br_tt (rv_var rfl (hko _ rfl (h1 hb)))
      | false => exact br_ff (h2 hb)
    · have e2 : (c.filter fun t => (brd c).all fun p => decide (val p t < 0)).map ptD = [] := filter_none fun t ht => brd_out hm hT hh ht
      rw [e2]
      refine rs_lst (rs_nil (and2 (ble5 rfl) ?_))
      refine ne_itk (d := .lst []) (e := .lst []) (k := 3) (j := 3) (p := True) rfl rfl ⟨fun _ => trivial, fun _ => rfl⟩ ?_
      exact br_ff (rs_next k)
end
end K58
set_option Elab.async false
set_option linter.all false
set_option maxRecDepth 100000
set_option maxHeartbeats 4000000
/-! K58PA: what the reading of law says. -/
namespace K58
open PySem PySem.Spec PyProof.Rows L2 Ab
local macro_rules | `(tactic| walk_at "sz") => `(tactic| repeat (first | (with_reducible exact Lb.mono (by assumption) (by decide)) | (with_reducible exact lb_lit (by decide +kernel)) | (with_reducible refine lb_sub ?_ ?_) | (with_reducible refine lb_add ?_ ?_) | (with_reducible refine lb_half ?_ ?_) | (with_reducible refine lb_neg ?_)))
local macro_rules | `(tactic| walk_at "go1") => `(tactic| ((conv => whnf); refine and2 ?x ?_; (case x => (first | exact rfl | exact ble5 rfl | (refine cmul (j := 5000) (k := 5000) ?m1 ?m2; (case m1 => walk_at "sz"); (case m2 => walk_at "sz"))))))
local macro_rules | `(tactic| walk_at "go") => `(tactic| repeat (walk_at "go1"))
local macro_rules | `(tactic| walk_at "fin") => `(tactic| ((conv => whnf); assumption))
local macro_rules | `(tactic| walk_at "wh") => `(tactic| (conv => whnf))
local macro_rules | `(tactic| walk_at "st") => `(tactic| repeat (first
  | (with_reducible refine rs_seq ?_) | (with_reducible refine rs_set ?_) | (with_reducible refine rs_par ?_) | (with_reducible refine rs_if ?_) | (with_reducible refine rs_br ?_) | (with_reducible refine rs_test ?_)
  | (with_reducible refine rs_op ?_) | (with_reducible refine rs_cb ?_) | (with_reducible refine rs_cons ?_) | (with_reducible refine rs_nil ?_) | (with_reducible refine rs_lit ?_)
  | ((with_reducible refine rv_chk ?_); refine rv_var rfl ?_) | ((with_reducible refine rv_chk ?_); refine rv_pen rfl ?_)
  | (with_reducible refine rs_ret ?_) | (with_reducible refine rs_tup ?_) | (with_reducible refine rs_lst ?_) | (with_reducible refine rs_call ?_) | (with_reducible refine rs_asg ?_) | (with_reducible refine rs_it ?_)
  | (with_reducible refine rs_next ?_) | (with_reducible refine rs_brk ?_)
  | (with_reducible refine rs_subI ?_) | (with_reducible refine rs_addI ?_) | (with_reducible refine rs_ltI ?_) | (with_reducible refine rs_leI ?_) | (with_reducible refine rs_gtI ?_) | (with_reducible refine rs_geI ?_)
  | (with_reducible refine rs_absI ?_) | (with_reducible refine rs_intI ?_) | (with_reducible refine rs_lenL ?_) | (with_reducible refine rs_tupC ?_) | (with_reducible refine rs_tupT ?_) | (with_reducible refine rs_tupL ?_)
  | (with_reducible refine eq_int ?_) | (with_reducible refine ne_int ?_) | (with_reducible refine ix_pt0 ?_) | (with_reducible refine ix_pt1 ?_) | (with_reducible refine len_seqP ?_) | (with_reducible refine len_tupI ?_)
  | (with_reducible refine rs_lenF ?_) | (with_reducible refine rs_gn ?_) | (with_reducible refine rs_sl ?_) | (with_reducible refine rs_part ?_) | (with_reducible refine rs_nopart ?_) | (with_reducible refine rs_neg1 ?_) | (with_reducible refine rs_negI ?_)
  | (with_reducible refine rs_and ?_) | (with_reducible refine rs_or ?_) | (with_reducible refine rs_not ?_) | (with_reducible refine rs_rev ?_)
  | dsimp only [AV.d, stAll, Option.map]))


def restA : AS := (aSeq (aSet 12 (aLc (aIt (aVar 8)) (aGn 13) aYes (aCall asp__law_p_value (aCons (aVar 13) (aCons (aVar 11) aNil))) [13]))
  (aIfS (aOr (aTest (aOp (arEqD true) (aCB arReprB (aCons (aCall asp_is_in (aCons (aVar 6) (aCons (aVar 11) aNil))) aNil)) (aCB arReprB (aCons (aOp arLe (aCB arMax (aCons (aVar 12) aNil)) (aC (.int 0))) aNil)))) (aTest (aOp (arEqD true) (aCB arReprB (aCons (aCallK0 asp_is_inner (fun l => l.reverse) (aCons (aVar 11) (aCons (aVar 6) aNil))) aNil)) (aCB arReprB (aCons (aOp arLt (aCB arMax (aCons (aVar 12) aNil)) (aC (.int 0))) aNil))))) (aRet (aC (.bl false))) aNext))
def setA : AS := (aSet 11 (aIf (aTest (aOp arLt (aVar 5) (aC (.int 4)))) (aCall asp__law_p_mixture (aCons (aVar 1) (aCons (aVar 6) aNil))) (aCall asp__law_pick (aCons (aVar 1) (aCons (aOp arAdd (aVar 4) (aLst (aCons (aCall asp__law_p_point (aCons (aC (.int 5)) (aCons (aLc (aRng1 (aVar 3)) (aGn 15) aYes (aOp arSub (aCall asp__law_draw (aCons (aVar 1) (aCons (aOp arMul (aC (.int 20)) (aVar 9)) aNil))) (aOp arMul (aC (.int 10)) (aVar 9))) [15]) aNil))) aNil))) aNil)))))
theorem rs_reprB {b : Bool} {n : Nat} {Q : AV → Nat → Prop} (k : Q (.st (.str (if b then "True" else "False"))) n) : arReprB [.st (.bl b)] n Q := k
theorem rs_maxL {ns : List Int} {n : Nat} {Q : AV → Nat → Prop} (h : 0 < ns.length) (k : ∀ m, m ∈ ns → (∀ y, y ∈ ns → y ≤ m) → Q (.st (.int m)) n) : arMax [.st (.lst (ns.map D.int))] n Q := by
  show (match intsD (ns.map D.int) with
    | some ns => _
    | none => False)
  rw [intsD_map]
  exact ⟨h, k⟩
theorem itk_rb (b : Bool) : itk 0 (.str (if b then "True" else "False")) = true := by
  cases b <;> decide +kernel
theorem ne_repr {b c : Bool} {n : Nat} {Q : AV → Nat → Prop} (h : b = c) (k : Q (.st (.bl false)) n) : arEqD true (.st (.str (if b then "True" else "False"))) (.st (.str (if c then "True" else "False"))) n Q := by
  subst h
  exact ne_itk (k := 0) (j := 0) (p := True) (itk_rb b) (itk_rb b) ⟨fun _ => trivial, fun _ => rfl⟩ k
section
variable {m : Nat} {A : AEnds} {s0 s2 s3 s4 s5 s6 s7 s8 s9 s10 s11 s12 : Sl} {n : Nat}
theorem run_rest {c : List Pt} (hg : GoodC c) {x : Pt} (hx : PB 1400 x)
    (k : ∀ ns, A.nx (LE s0 s2 s3 s4 s5 (.dat (.tup (c.map ptD))) s7 (.dat (.lst ((brd c).map ptD))) s9 s10 (.dat (ptD x)) (.dat (.lst ns))) n) :
    restA A (LE s0 s2 s3 s4 s5 (.dat (.tup (c.map ptD))) s7 (.dat (.lst ((brd c).map ptD))) s9 s10 (.dat (ptD x)) s12) n := by
  have hx2 : PB 2000 x := hx.mono (by decide)
  have hbn : 0 < (brd c).length := by
    unfold brd
    rw [List.length_map]
    exact List.length_pos_iff.mpr (found_ne hg.1)
  have hbl := brd_len hg
  unfold restA
  refine rs_seq (rs_set ?_)
  refine lc_run ((brd c).map ptD) ((brd c).map fun p => D.int (val p x)) (fun R r => ?_) rfl ?_ ?_ ?_ ?_
  · exact rs_it (rv_var rfl r)
  · rw [List.length_map]
    omega
  · rw [List.length_map, List.length_map]
  · intro i d e hd he k k2 hk
    rw [List.getElem?_map] at hd he
    cases hi : (brd c)[i]? with
    | none =>
      rw [hi] at hd
      cases hd
    | some p =>
      rw [hi] at hd he
      cases hd
      cases he
      have hp := brd_pb hg p (List.mem_of_getElem? hi)
      refine rs_gn (br_tt (rs_call (rs_cons (rv_var rfl (rs_cons (rv_var rfl (rs_nil ?_)))))))
      exact ⟨p, x, rfl, hp.1, hx2, hp.2, hk _ rfl⟩
  · have em : ((brd c).map fun p => D.int (val p x)) = ((brd c).map fun p => val p x).map D.int := by rw [List.map_map]; rfl
    rw [em]
    have hnl : 0 < ((brd c).map fun p => val p x).length := by
      rw [List.length_map]
      exact hbn
    have k1 := k (((brd c).map fun p => val p x).map D.int)
    have b1 : ∀ mx, mx ∈ ((brd c).map fun p => val p x) → (∀ y, y ∈ ((brd c).map fun p => val p x) → y ≤ mx) → ((brd c).all fun p => decide (val p x ≤ 0)) = decide (mx ≤ 0) := fun mx h1 h2 => by
      by_cases h0 : mx ≤ 0
      · rw [decide_eq_true h0, List.all_eq_true]
        intro p hp
        have := h2 _ (List.mem_map.mpr ⟨p, hp, rfl⟩)
        exact decide_eq_true (by omega)
      · rw [decide_eq_false h0, List.all_eq_false]
        obtain ⟨p, hp, rfl⟩ := List.mem_map.mp h1
        exact ⟨p, hp, by simpa using h0⟩
    have b2 : ∀ mx, mx ∈ ((brd c).map fun p => val p x) → (∀ y, y ∈ ((brd c).map fun p => val p x) → y ≤ mx) → ((brd c).all fun p => decide (val p x < 0)) = decide (mx < 0) := fun mx h1 h2 => by
      by_cases h0 : mx < 0
      · rw [decide_eq_true h0, List.all_eq_true]
        intro p hp
        have := h2 _ (List.mem_map.mpr ⟨p, hp, rfl⟩)
        exact decide_eq_true (by omega)
      · rw [decide_eq_false h0, List.all_eq_false]
        obtain ⟨p, hp, rfl⟩ := List.mem_map.mp h1
        exact ⟨p, hp, by simpa using h0⟩
    generalize ((brd c).map fun p => val p x) = vs at *
    dsimp only
    refine rs_if (rs_or (rs_test (rs_op (rs_cb (rs_cons (rs_call (rs_cons (rv_var rfl (rs_cons (rv_var rfl (rs_nil ?_)))))))))))
    refine ⟨false, c, x, rfl, hg, hx2, ?_⟩
    refine rs_nil (rs_reprB (rs_cb (rs_cons (rs_op (rs_cb (rs_cons (rv_var rfl (rs_nil (rs_maxL hnl fun mx h1 h2 => ?_)))))))))
    refine rs_lit (rs_leI (rs_nil (rs_reprB ?_)))
    refine ne_repr (b1 mx h1 h2) ?_
    refine br_ff (rs_test (rs_op (rs_cb (rs_cons (rs_callK0 (rs_cons (rv_var rfl (rs_cons (rv_var rfl (rs_nil ?_))))))))))
    refine ⟨false, c, x, rfl, hg, hx2, ?_⟩
    refine rs_nil (rs_reprB (rs_cb (rs_cons (rs_op (rs_cb (rs_cons (rv_var rfl (rs_nil (rs_maxL hnl fun mx h1 h2 => ?_)))))))))
    refine rs_lit (rs_ltI (rs_nil (rs_reprB ?_)))
    refine ne_repr (b2 mx h1 h2) ?_
    exact br_ff (rs_next k1)
theorem run_set (hm : m = 1 ∨ m = 2) {pts c : List Pt} (hp : ∀ p ∈ pts, OkP m p) (hl : pts.length ≤ 9) (hc : ∀ p ∈ c, OkP m p) (hcn : c ≠ []) (hcl : c.length ≤ 18) {wide lap : Int} (hw : 0 < wide) (hwl : Lb 30 wide) (hn : n + 30 < 1000000)
    (k : ∀ x n', n' ≤ n + 20 → PB 1400 x → A.nx (LE s0 s2 (.dat (.int m)) (.dat (.lst (pts.map ptD))) (.dat (.int lap)) (.dat (.tup (c.map ptD))) s7 s8 (.dat (.int wide)) s10 (.dat (ptD x)) s12) n') :
    setA A (LE s0 s2 (.dat (.int m)) (.dat (.lst (pts.map ptD))) (.dat (.int lap)) (.dat (.tup (c.map ptD))) s7 s8 (.dat (.int wide)) s10 s11 s12) n := by
  have hmm : m ≤ 2 := by omega
  unfold setA
  refine rs_set (rs_br (rs_test (rs_op (rv_var rfl (rs_lit (rs_ltI (br_dec (fun e => ?_) (fun e => ?_))))))))
  · refine rs_call (rs_cons (rv_pen rfl (rs_cons (rv_var rfl (rs_nil ?_)))))
    exact ⟨c, m, rfl, hcn, hcl, fun p h => ⟨(hc p h).pb, (hc p h).nm.1, (hc p h).len⟩, hmm, by omega, fun p n2 h2 h3 h4 => k p n2 h2 h3⟩
  · have w2 : CMulW 20 wide := cmul (j := 5) (k := 30) (lb_lit (by decide)) hwl
    have w3 : CMulW 10 wide := cmul (j := 5) (k := 30) (lb_lit (by decide)) hwl
    refine rs_call (rs_cons (rv_pen rfl (rs_cons (rs_op (rv_var rfl (rs_lst (rs_cons (rs_call (rs_cons (rs_lit (rs_cons ?_))))))))))) 
    refine lc_gen ((List.range m).map fun (i : Nat) => D.int (0 + (i : Int))) (fun d => ∃ x, d = .int x ∧ Lb 55 x) 1 (fun R r => ?_) rfl (by rw [List.length_map, List.length_range]; omega) ?_ ?_
    · refine rs_rng1 (rv_var rfl ?_)
      exact ⟨by omega, by omega, r⟩
    · intro i d n' hd hn' K k2 hK
      have hi : i < m := by
        have := (List.getElem?_eq_some_iff.mp hd).1
        rw [List.length_map, List.length_range] at this
        exact this
      refine rs_gn (br_tt (rs_op (rs_call (rs_cons (rv_pen rfl (rs_cons (rs_op (rs_lit (rv_var rfl (rs_mulI w2 (rs_nil ?_)))))))))))
      have h1 : Lb 55 (20 * wide) := ((lb_lit (k := 5) (x := 20) (by decide)).mul hwl).mono (by decide)
      refine ⟨20 * wide, rfl, h1.mono (by decide), by omega, fun r h0 h2 => ?_⟩
      refine rs_op (rs_lit (rv_var rfl (rs_mulI w3 (rs_subI ?_))))
      refine hK _ _ _ rfl ⟨_, rfl, ?_⟩ (by omega)
      unfold Lb at *
      omega
    · intro acc n1 hacc hP hn1
      rw [List.length_map, List.length_range] at hacc hn1
      obtain ⟨ns, rfl, hns⟩ := ints_of acc hP
      rw [List.length_map] at hacc
      have h5 : Lb 1400 (5 : Int) := (lb_lit (k := 3) (x := 5) (by decide)).mono (by decide)
      have hns2 : ∀ x ∈ ns, Lb 1400 x := fun x hx => (hns x hx).mono (by decide)
      refine rs_nil ?_
      refine ⟨5, ns, rfl, by decide, h5, hns2, by omega, ?_⟩
      refine rs_nil (and2 (ble5 rfl) ?_)
      refine rs_addLF ?_ (rs_nil ?_)
      · rw [List.length_map]
        simp
        omega
      have en : pts.map ptD ++ [ptD (low (5, ns))] = (pts ++ [low (5, ns)]).map ptD := by rw [List.map_append]; rfl
      rw [en]
      refine ⟨_, rfl, by simp, ?_, by omega, fun d hd => ?_⟩
      · rw [List.length_map, List.length_append]
        simp
        omega
      · obtain ⟨x, hx, rfl⟩ := List.mem_map.mp hd
        refine k x (n1 + 1) (by omega) ?_
        rcases List.mem_append.mp hx with hx | hx
        · exact (hp x hx).pb.mono (by decide)
        · rw [List.mem_singleton.mp hx]
          exact low_pb ⟨h5, hns2⟩
end
end K58
set_option Elab.async false
set_option linter.all false
set_option maxRecDepth 100000
set_option maxHeartbeats 4000000
/-! K58PB: what the reading of law says: true. -/
namespace K58
open PySem PySem.Spec PyProof.Rows L2 Ab
local macro_rules | `(tactic| walk_at "sz") => `(tactic| repeat (first | (with_reducible exact Lb.mono (by assumption) (by decide)) | (with_reducible exact lb_lit (by decide +kernel)) | (with_reducible refine lb_sub ?_ ?_) | (with_reducible refine lb_add ?_ ?_) | (with_reducible refine lb_half ?_ ?_) | (with_reducible refine lb_neg ?_)))
local macro_rules | `(tactic| walk_at "go1") => `(tactic| ((conv => whnf); refine and2 ?x ?_; (case x => (first | exact rfl | exact ble5 rfl | (refine cmul (j := 5000) (k := 5000) ?m1 ?m2; (case m1 => walk_at "sz"); (case m2 => walk_at "sz"))))))
local macro_rules | `(tactic| walk_at "go") => `(tactic| repeat (walk_at "go1"))
local macro_rules | `(tactic| walk_at "fin") => `(tactic| ((conv => whnf); assumption))
local macro_rules | `(tactic| walk_at "wh") => `(tactic| (conv => whnf))
local macro_rules | `(tactic| walk_at "st") => `(tactic| repeat (first
  | (with_reducible refine rs_seq ?_) | (with_reducible refine rs_set ?_) | (with_reducible refine rs_par ?_) | (with_reducible refine rs_if ?_) | (with_reducible refine rs_br ?_) | (with_reducible refine rs_test ?_)
  | (with_reducible refine rs_op ?_) | (with_reducible refine rs_cb ?_) | (with_reducible refine rs_cons ?_) | (with_reducible refine rs_nil ?_) | (with_reducible refine rs_lit ?_)
  | ((with_reducible refine rv_chk ?_); refine rv_var rfl ?_) | ((with_reducible refine rv_chk ?_); refine rv_pen rfl ?_)
  | (with_reducible refine rs_ret ?_) | (with_reducible refine rs_tup ?_) | (with_reducible refine rs_lst ?_) | (with_reducible refine rs_call ?_) | (with_reducible refine rs_asg ?_) | (with_reducible refine rs_it ?_)
  | (with_reducible refine rs_next ?_) | (with_reducible refine rs_brk ?_)
  | (with_reducible refine rs_subI ?_) | (with_reducible refine rs_addI ?_) | (with_reducible refine rs_ltI ?_) | (with_reducible refine rs_leI ?_) | (with_reducible refine rs_gtI ?_) | (with_reducible refine rs_geI ?_)
  | (with_reducible refine rs_absI ?_) | (with_reducible refine rs_intI ?_) | (with_reducible refine rs_lenL ?_) | (with_reducible refine rs_tupC ?_) | (with_reducible refine rs_tupT ?_) | (with_reducible refine rs_tupL ?_)
  | (with_reducible refine eq_int ?_) | (with_reducible refine ne_int ?_) | (with_reducible refine ix_pt0 ?_) | (with_reducible refine ix_pt1 ?_) | (with_reducible refine len_seqP ?_) | (with_reducible refine len_tupI ?_)
  | (with_reducible refine rs_lenF ?_) | (with_reducible refine rs_gn ?_) | (with_reducible refine rs_sl ?_) | (with_reducible refine rs_part ?_) | (with_reducible refine rs_nopart ?_) | (with_reducible refine rs_neg1 ?_) | (with_reducible refine rs_negI ?_)
  | (with_reducible refine rs_and ?_) | (with_reducible refine rs_or ?_) | (with_reducible refine rs_not ?_) | (with_reducible refine rs_rev ?_)
  | dsimp only [AV.d, stAll, Option.map]))


theorem rs_min2 {i j : Int} {n : Nat} {Q : AV → Nat → Prop} (k : Q (.st (.int (if j < i then j else i))) n) : arMin2 [.st (.int i), .st (.int j)] n Q := k
theorem rs_for {ai : AI} {g : AG} {t : AS} {A : AEnds} {ρ : Ab.Env} {n : Nat} (h : ai ρ n fun ds n1 => ∃ I : Nat → Ab.Env → Nat → Prop, I 0 ρ n1 ∧ (∀ i d ρ' n', ds[i]? = some d → I i ρ' n' → g d ρ' fun ρ2 => t { A with nx := I (i + 1), ct := I (i + 1), bk := A.nx } ρ2 n') ∧ ∀ ρ' n', I ds.length ρ' n' → A.nx ρ' n') : aFor ai g t A ρ n := h
section
variable {m : Nat} {A : AEnds} {s0 s2 s3 s4 s5 s6 s7 s8 s9 s10 s11 s12 : Sl} {n : Nat}
theorem run_tail (hm : m = 1 ∨ m = 2) {pts : List Pt} (hp : ∀ p ∈ pts, OkP m p) (hne : pts ≠ []) (hl : pts.length ≤ 9) {wide : Int} (hw : 0 < wide) (hwl : Lb 30 wide) (hn : n + 300 < 1000000) (hs11 : ∀ ds, s11 ≠ .own ds)
    (k : ∀ s5 s6 s7 s8 s11 s12 n', n' ≤ n + 200 → (∀ ds, s11 ≠ .own ds) → A.nx (LE s0 s2 (.dat (.int m)) (.dat (.lst (pts.map ptD))) s5 s6 s7 s8 (.dat (.int wide)) s10 s11 s12) n') :
    tailA A (LE s0 s2 (.dat (.int m)) (.dat (.lst (pts.map ptD))) s5 s6 s7 s8 (.dat (.int wide)) s10 s11 s12) n := by
  obtain ⟨hh, hcl, hcn⟩ := corners_hull hm hp hne hl
  have hs := srt_ok hm hp
  have hT : ∀ x ∈ srt pts, OkP m x := fun x hx => hp x ((hs.1 x).mp hx)
  have hg := hull_good hm hT hh
  have hc : ∀ x ∈ corners m pts, OkP m x := fun x hx => hT x (hh.sub x hx)
  unfold tailA
  refine rs_seq (run_corn hm hp hne hl ?_)
  generalize corners m pts = c at hh hcl hcn hg hc ⊢
  dsimp only
  refine rs_seq (rs_set (rs_call (rs_cons (rv_var rfl (rs_nil ?_)))))
  refine ⟨false, c, rfl, hg, ?_⟩
  dsimp only
  refine rs_seq (rs_set (rs_call (rs_cons (rv_var rfl (rs_nil ?_)))))
  refine ⟨c, rfl, hg, ?_⟩
  dsimp only
  refine rs_seq (run_chk (pts := pts) hg ?_)
  dsimp only
  refine rs_seq ?_
  refine for_runN ((List.range 8).map fun (i : Nat) => D.int (0 + (i : Int))) (fun j ρ n' => n' ≤ n + 20 * j ∧ ∃ s5 s11 s12, ρ = LE s0 s2 (.dat (.int m)) (.dat (.lst (pts.map ptD))) s5 (.dat (.tup (c.map ptD))) (.dat (.lst ((brd c).map ptD))) (.dat (.lst ((brd c).map ptD))) (.dat (.int wide)) s10 s11 s12 ∧ ∀ ds, s11 ≠ .own ds) (fun R r => ?_) ⟨by omega, s5, s11, s12, rfl, hs11⟩ ?_ ?_
  · exact rs_rng1 (rs_lit ⟨by decide, by decide, r⟩)
  · rintro i d ρ' n' hd ⟨hn', s5', s11', s12', rfl, hs11'⟩
    have hi : i < 8 := by
      have := (List.getElem?_eq_some_iff.mp hd).1
      rw [List.length_map, List.length_range] at this
      exact this
    rw [List.getElem?_map, List.getElem?_range hi] at hd
    cases hd
    refine rs_gn ?_
    show aSeq setA restA _ _ _
    refine rs_seq ?_
    refine run_set (lap := 0 + (i : Int)) hm hp hl hc hcn hcl hw hwl (by omega) fun x n2 hn2 hx => ?_
    dsimp only
    refine run_rest hg hx fun ns => ?_
    exact ⟨by omega, _, _, _, rfl, fun _ e => nomatch e⟩
  · rintro ρ' n' ⟨hn', s5', s11', s12', rfl, hs11'⟩
    rw [List.length_map, List.length_range] at hn'
    dsimp only
    refine run_last hm hT hh (fun p h => (hs.1 p).mpr h) hl hs11' ?_
    exact k _ _ _ _ _ _ n' (by omega) hs11'
theorem plain_law {AQ : AV → Nat → Prop} (q : ∀ n, AQ (.st (.bl true)) n) : as_law (E AQ) (LE .un .un .un .un .un .un .un .un .un .un .un .un) 0 := by
  unfold as_law
  refine rs_seq ?_
  refine for_runN ((List.range 5).map fun (i : Nat) => D.int (0 + (i : Int))) (fun j ρ n' => n' ≤ 1000 * j ∧ ∃ s2 s3 s4 s5 s6 s7 s8 s9 s10 s11 s12, ρ = LE .un s2 s3 s4 s5 s6 s7 s8 s9 s10 s11 s12 ∧ ∀ ds, s11 ≠ .own ds) (fun R r => ?_) ⟨by omega, _, _, _, _, _, _, _, _, _, _, _, rfl, fun _ e => nomatch e⟩ ?_ ?_
  · exact rs_rng1 (rs_lit ⟨by decide, by decide, r⟩)
  · rintro i d ρ' n hd ⟨hn, s2, s3, s4, s5, s6, s7, s8, s9, s10, s11, s12, rfl, hs11⟩
    have hi : i < 5 := by
      have := (List.getElem?_eq_some_iff.mp hd).1
      rw [List.length_map, List.length_range] at this
      exact this
    refine rs_gn (rs_seq (rs_set (rs_op (rs_lit (rs_call (rs_cons (rv_pen rfl (rs_cons (rs_lit (rs_nil ?_))))))))))
    refine ⟨3, rfl, (lb_lit (k := 3) (by decide)).mono (by decide), by omega, fun r h0 h1 => ?_⟩
    refine rs_addI ?_
    dsimp only
    refine rs_seq (rs_asg (rs_tup (rs_cons (rs_cb (rs_cons (rv_var rfl (rs_cons (rs_lit (rs_nil (rs_min2 ?_))))))))))
    obtain ⟨m, hm, em⟩ : ∃ m : Nat, (m = 1 ∨ m = 2) ∧ (if (2 : Int) < 1 + r then 2 else 1 + r) = (m : Int) := by
      split
      · exact ⟨2, .inr rfl, rfl⟩
      · refine ⟨(1 + r).toNat, by omega, by omega⟩
    rw [em]
    refine rs_cons (rs_call (rs_cons (rv_pen rfl (rs_cons ?_))))
    refine rs_lst (rs_cons (rs_lit (rs_cons (rs_lit (rs_cons (rs_lit (rs_cons (rs_op (rs_lit (rs_lit (rs_powI ⟨by decide, by decide, by decide⟩ ?_)))))))))))
    refine rs_nil (and2 (ble5 rfl) (rs_nil ?_))
    refine ⟨_, rfl, by simp, Nat.le_of_ble_eq_true rfl, by omega, fun d hd => ?_⟩
    have hw : ∃ w : Int, d = .int w ∧ 0 < w ∧ Lb 30 w := by
      have : d = .int 3 ∨ d = .int 9 ∨ d = .int 40 ∨ d = .int (10 ^ (9 : Int).toNat) := by simpa using hd
      rcases this with rfl | rfl | rfl | rfl <;> exact ⟨_, rfl, by decide, lb_lit (by decide)⟩
    obtain ⟨wide, rfl, hw, hwl⟩ := hw
    refine rs_nil (and2 (ble5 rfl) ?_)
    refine and2 rfl (and2 rfl ?_)
    dsimp only
    refine rs_seq (rs_setO (rs_lst (rs_nil (and2 (ble5 rfl) ?_))))
    dsimp only
    refine rs_seq (rs_for (rs_rng1 (rs_op (rs_lit (rs_call (rs_cons (rv_pen rfl (rs_cons (rs_lit (rs_nil ?_))))))))))
    refine ⟨9, rfl, (lb_lit (k := 4) (by decide)).mono (by decide), by omega, fun r2 h2 h3 => ?_⟩
    refine rs_addI ⟨by omega, by omega, ?_⟩
    generalize hk : (1 + r2).toNat = kk
    have hkk : 1 ≤ kk ∧ kk ≤ 9 := by omega
    refine ⟨fun j ρ n' => ∃ pts s5 s10, ρ = LE .un (.dat d) (.dat (.int m)) (.own (pts.map ptD)) s5 s6 s7 s8 (.dat (.int wide)) s10 s11 s12 ∧ pts.length = j ∧ (∀ p ∈ pts, OkP m p) ∧ n' ≤ n + 3 + 3 * j, ⟨[], s5, s10, ?_, rfl, by simp, by omega⟩, ?_, ?_⟩
    · rfl
    · rintro j d' ρ' n' hd ⟨pts, s5', s10', rfl, hpl, hp, hn'⟩
      have hj : j < kk := by
        have := (List.getElem?_eq_some_iff.mp hd).1
        rw [List.length_map, List.length_range] at this
        exact this
      refine rs_gn ?_
      show lapA _ _ _
      refine run_lap hm hp (by omega) hw hwl (by omega) fun p n2 d10 hn2 hpk => ?_
      refine ⟨pts ++ [p], _, _, rfl, by rw [List.length_append, hpl]; rfl, fun x hx => ?_, by omega⟩
      rcases List.mem_append.mp hx with hx | hx
      · exact hp x hx
      · rw [List.mem_singleton.mp hx]
        exact hpk
    · rintro ρ' n' ⟨pts, s5', s10', rfl, hpl, hp, hn'⟩
      rw [List.length_map, List.length_range] at hpl hn'
      dsimp only
      refine rs_frz (ds := pts.map ptD) rfl ?_
      show tailA _ _ _
      have hne : pts ≠ [] := fun e => by
        subst e
        simp at hpl
        omega
      refine run_tail hm hp hne (by omega) hw hwl (by omega) hs11 fun s5 s6 s7 s8 s11 s12 n2 hn2 hs11' => ?_
      exact ⟨by omega, _, _, _, _, _, _, _, _, _, _, _, rfl, hs11'⟩
  · rintro ρ' n ⟨hn, s2, s3, s4, s5, s6, s7, s8, s9, s10, s11, s12, rfl, hs11⟩
    dsimp only
    refine rs_ret (rs_lit ?_)
    exact q n
end
end K58
set_option Elab.async false
set_option linter.all false
set_option maxRecDepth 100000
set_option maxHeartbeats 4000000
/-! K58D: the pen: _law_draw. -/
namespace K58
open PySem PySem.Spec PyProof.Rows L2 Ab
abbrev s_draw : Stmt := topS 15
abbrev N_draw : List Str := ["pen", "many", "rest", "turn", "cell", "shuffled"]
theorem sc_draw : FnScope N_draw ["pen", "many"] (defScope s_draw) := ⟨rfl, rfl, rfl, by decide +kernel, rfl, by decide +kernel, by decide +kernel⟩
theorem xt_upd {p : Addr} {H : Hp} {o : HO} : Xt p H (upd H p o) := fun a u e n => by
  rw [upd_ne n]
  exact e
theorem pow64 {i : Int} (h : i.natAbs < 2 ^ 64) {j : Int} (h0 : 0 ≤ j) (h1 : j ≤ 1000000) : CPow i j := ⟨h0, h1, h⟩
theorem rep_ints {K : PySem.W.Frag} {H : Hp} : ∀ ns : List Int, RepAll K H (ns.map V.int) (ns.map D.int)
  | [] => .nil
  | x :: ns => .cons (.int x) (rep_ints ns)
theorem if_t {b : Bool} {A B : Prop} (h : b = true) (a : A) : if b = true then A else B := by
  rw [if_pos h]
  exact a
theorem if_f {b : Bool} {A B : Prop} (h : b = false) (a : B) : if b = true then A else B := by
  rw [h, if_neg Bool.false_ne_true]
  exact a
section
variable {P : Program} {w : World} {K : PySem.W.Frag} {mg : Str → Option Value} {base : Heap}
theorem ok_draw {f : Addr} {fd : FuncData} {k : Nat} (fx : Fx mg) (F : Fun K "_law_draw" "_law_draw" s_draw f fd) : FnOk P w K mg base CX0 (k + 1) f fd ["pen", "many"] (spA K asp__law_draw) := by
  refine F.ok sc_draw (fun vs H Q E h => ?_) (fun cdv A outer s H vs Q E hr h => ?_)
  · obtain ⟨W, n, avs, AQ, _, _, _, r, ⟨many, rfl, _⟩, _⟩ := h
    exact r.length
  · obtain ⟨W, n, avs, AQ, hK, rfl, b, ra, ⟨many, rfl, hml, hn, hq⟩, q⟩ := h
    obtain ⟨t, r, hp, ht0, htn, hr0⟩ := b.pen
    have hc := b.wc
    have hcp := b.cp
    cases ra with
    | pn ra =>
    cases ra with
    | st rm rn =>
    cases rn
    cases rm
    refine ⟨_, pss_cons (ps_if (pt_cmpR op_lt (pv 1) pe_int (nomark _)) (pss_one (ps_ret pe_int)) pss_nil)
      (pss_cons (ps_if (pt_cmpR op_gt (pe_ix ix_seq (pv 0) pe_int (by intro _ _; rfl)) pe_int (nomark _))
        (pss_cons (ps_set (i := 2) sc_draw.nd rfl (.inl rfl) (pe_callTy call_int1 (by rfl) fx.b_int (by decide +kernel) (pa_cons (pe_ix ix_seq (pv 0) pe_int (by intro _ _; rfl)) pa_nil)))
        (pss_cons (ps_asg (pe_op op_fdivW (pv 2) (pv 1)) (pg_sub (pv 0) pe_int set_list))
        (pss_one (ps_ret (pe_op op_mod (pe_callTy call_int1 (by rfl) fx.b_int (by decide +kernel) (pa_cons (pv 2) pa_nil)) (pv 1)))))) pss_nil)
      (pss_cons (ps_set (i := 3) sc_draw.nd rfl (.inl rfl) (pe_ix ix_seq (pv 0) pe_int (by intro _ _; rfl)))
      (pss_cons (ps_asg (pe_op op_add (pv 3) pe_int) (pg_sub (pv 0) pe_int set_list))
      (pss_cons (ps_set (i := 4) sc_draw.nd rfl (.inl rfl) (pe_op op_add (pe_op op_mulW pe_int (pv 3)) pe_int))
      (pss_cons (ps_if (pt_cmpR (op_neD hr.units) (pe_ix ix_seq (pv 0) pe_int (by intro _ _; rfl)) (pe_lst pa_nil) (nomark _))
        (pss_one (ps_set (i := 4) sc_draw.nd rfl (.inl rfl) (pe_ix ix_seq (pe_ix ix_seq (pv 0) pe_int (by intro _ _; rfl)) (pe_op op_mod (pe_callTy call_int1 (by rfl) fx.b_int (by decide +kernel) (pa_cons (pv 3) pa_nil)) (pe_callB call_len (by rfl) fx.b_len (by decide +kernel) (pa_cons (pe_ix ix_seq (pv 0) pe_int (by intro _ _; rfl)) pa_nil))) (by intro _ _; rfl)))) pss_nil)
      (pss_cons (ps_if (PW.pt (pw_and (pt_cmpR op_lt (pv 3) (pe_callB call_len (by rfl) fx.b_len (by decide +kernel) (pa_cons (pe_ix ix_seq (pv 0) pe_int (by intro _ _; rfl)) pa_nil)) (nomark _)) (pw_and1 (pt_cmpR op_ge (pe_callB call_abs (by rfl) fx.b_abs (by decide +kernel) (pa_cons (pv 4) pa_nil)) (pe_op op_pow pe_int pe_int) (nomark _)))))
        (pss_cons (ps_set (i := 2) sc_draw.nd rfl (.inl rfl) (pe_op op_add (pe_op op_mul pe_int (pe_op op_sub (pe_callB call_abs (by rfl) fx.b_abs (by decide +kernel) (pa_cons (pv 4) pa_nil)) (pe_op op_pow pe_int pe_int))) (pe_callTy call_int1 (by rfl) fx.b_int (by decide +kernel) (pa_cons (pe_cmpR op_lt (pv 4) pe_int (nomark _)) pa_nil))))
        (pss_cons (ps_asg (pe_op op_fdivW (pe_callTy call_int1 (by rfl) fx.b_int (by decide +kernel) (pa_cons (pv 2) pa_nil)) (pv 1)) (pg_sub (pv 0) pe_int set_list))
        (pss_one (ps_ret (pe_op op_mod (pe_callTy call_int1 (by rfl) fx.b_int (by decide +kernel) (pa_cons (pv 2) pa_nil)) (pv 1)))))) pss_nil)
      (pss_cons (ps_set (i := 5) sc_draw.nd rfl (.inl rfl) (pe_op op_mod (pe_callTy call_int1 (by rfl) fx.b_int (by decide +kernel) (pa_cons (pe_op op_pow (pe_op op_add (pe_op op_add (pe_op op_mod (pe_callTy call_int1 (by rfl) fx.b_int (by decide +kernel) (pa_cons (pv 4) pa_nil)) pe_int) (pe_op op_mulW pe_int (pv 3))) pe_int) pe_int) pa_nil)) pe_int))
      (pss_cons (ps_set (i := 5) sc_draw.nd rfl (.inl rfl) (pe_op op_mod (pe_callTy call_int1 (by rfl) fx.b_int (by decide +kernel) (pa_cons (pe_op op_pow (pe_op op_add (pe_op op_add (pe_op op_mulW (pv 5) (pe_op op_add (pe_op op_mulW pe_int (pv 3)) pe_int)) (pe_op op_mulW (pe_op op_mulW pe_int (pv 3)) (pv 3))) pe_int) pe_int) pa_nil)) pe_int))
      (pss_one (ps_ret (pe_op op_mod (pe_callTy call_int1 (by rfl) fx.b_int (by decide +kernel) (pa_cons (pe_op op_fdivW (pv 5) pe_int) pa_nil)) (pv 1)))))))))))), ?_⟩
    have fin : ∀ (H' : Hp) (t' r' v : Int), Xt W.p W.B H' → H' W.p = some (.lst [.ref W.c, .int t', .int r']) → 0 ≤ t' → t' ≤ n + 1 → 0 ≤ r' → 0 ≤ v → (v < many ∨ v = 0) → Q (.int v) H' := fun H' t' r' v e1 e2 e3 e4 e5 e6 e7 =>
      q (.int v) H' (.st (.int v)) (n + 1) ⟨e1, ⟨t', r', e2, e3, by omega, e5⟩, Rep.int v⟩ (hq v e6 e7)
    refine ⟨.int many, rfl, many, 2, rfl, rfl, _, rfl, ?_⟩
    by_cases h2 : many < 2
    · refine if_t (decide_eq_true h2) ?_
      exact fin W.B t r 0 Xt.refl hp ht0 (by omega) hr0 (by decide) (.inr rfl)
    refine if_f (decide_eq_false h2) ?_
    have hm0 : 0 < many := by omega
    have cd : ∀ x : Int, CDivW x many := fun x => cdiv hm0 hml
    refine ⟨.ref W.p, rfl, .inl ⟨W.p, _, 2, .int r, rfl, rfl, .inl (.inl hp), rfl, r, 0, rfl, rfl, _, rfl, ?_⟩⟩
    by_cases h3 : 0 < r
    · refine if_t (decide_eq_true h3) ?_
      refine ⟨.ref W.p, rfl, .inl ⟨W.p, _, 2, .int r, rfl, rfl, .inl (.inl hp), rfl, .inl ⟨r, rfl, ?_⟩⟩⟩
      refine ⟨.int r, rfl, .int many, rfl, r, many, rfl, rfl, cd r, .ref W.p, rfl, W.p, _, 2, 2, rfl, rfl, hp, rfl, ?_⟩
      refine ⟨.int r, rfl, .inl ⟨r, rfl, .int many, rfl, r, many, rfl, rfl, hm0, ?_⟩⟩
      exact fin _ t (r / many) (r % many) xt_upd upd_same ht0 (by omega) (Int.ediv_nonneg hr0 (by omega)) (Int.emod_nonneg _ (by omega)) (.inl (Int.emod_lt_of_pos _ hm0))
    refine if_f (decide_eq_false h3) ?_
    refine ⟨.ref W.p, rfl, .inl ⟨W.p, _, 1, .int t, rfl, rfl, .inl (.inl hp), rfl, ?_⟩⟩
    refine ⟨.int t, rfl, t, 1, rfl, rfl, .ref W.p, rfl, W.p, _, 1, 1, rfl, rfl, hp, rfl, ?_⟩
    have hpn : W.p ≠ W.c := fun e => hcp e.symm
    generalize hH1 : upd W.B W.p (.lst ([V.ref W.c, .int t, .int r].set 1 (.int (t + 1)))) = H1
    have x1 : Xt W.p W.B H1 := hH1 ▸ xt_upd
    have p1 : H1 W.p = some (.lst [.ref W.c, .int (t + 1), .int r]) := by rw [← hH1]; exact upd_same
    have c1 : H1 W.c = some (.lst (W.cs.map V.int)) := x1 _ _ hc hcp
    have tl : Lb 20 t := by
      unfold Lb
      omega
    have m1 : CMulW 83471 t := cmul (j := 17) (k := 20) (lb_lit (by decide)) tl
    refine ⟨.int t, rfl, 83471, t, rfl, rfl, m1, 83471 * t, 11319, rfl, rfl, ?_⟩
    dsimp only
    -- if pen[0] != []
    refine ⟨.ref W.p, rfl, .inl ⟨W.p, _, 0, .ref W.c, rfl, rfl, .inl (.inl p1), rfl, Nat.zero_le _, fun o no => ?_⟩⟩
    have x2 : Xt W.p W.B (upd H1 o (.lst [])) := x1.trans (Xt.new no)
    have p2 : (upd H1 o (.lst [])) W.p = some (.lst [.ref W.c, .int (t + 1), .int r]) := by
      rw [upd_ne (ne_of_none p1 no)]
      exact p1
    have c2 : (upd H1 o (.lst [])) W.c = some (.lst (W.cs.map V.int)) := x2 _ _ hc hcp
    have dc : Dp K (upd H1 o (.lst [])) (.ref W.c) (D.lst (W.cs.map D.int)).py := Rep.dp (itk_plain 1 _ (itk_ints 0 W.cs)) (Rep.lst c2 (rep_ints W.cs))
    have do' : Dp K (upd H1 o (.lst [])) (.ref o) (D.lst []).py := Rep.dp rfl (Rep.lst upd_same .nil)
    refine ⟨_, _, dc, do', itk_shaped (k := 1) (itk_ints 0 W.cs), itk_shaped (k := 1) rfl, _, rfl, ?_⟩
    have ee : PyData.eqv (D.lst (W.cs.map D.int)).py (D.lst []).py = decide (W.cs = []) := itk_eqv_dec (k := 1) (j := 1) (itk_ints 0 W.cs) rfl ⟨fun e => List.map_eq_nil_iff.mp (D.lst.inj e), fun e => by rw [e]; rfl⟩
    rw [ee]
    clear dc do' ee
    generalize upd H1 o (.lst []) = H2 at x2 p2 c2 ⊢
    have cl : ∀ z : Int, CMulW 83471 t := fun _ => m1
    by_cases hcs : W.cs = []
    refine if_f (by rw [decide_eq_true hcs]; rfl) ?_
    generalize 83471 * t + 11319 = cell
    rotate_left
    refine if_t (by rw [decide_eq_false hcs]; rfl) ?_
    have hlen : 0 < W.cs.length := List.length_pos_iff.mpr hcs
    have hl2 : (0 : Int) < ((W.cs.map V.int).length : Nat) := by
      rw [List.length_map]
      omega
    obtain ⟨cell, hat⟩ : ∃ cell : Int, atI (W.cs.map V.int) (t % ((W.cs.map V.int).length : Nat)) = some (.int cell) := by
      have h0 := Int.emod_nonneg t (show ((W.cs.map V.int).length : Int) ≠ 0 by omega)
      have h1 := Int.emod_lt_of_pos t hl2
      generalize t % ((W.cs.map V.int).length : Int) = y at h0 h1 ⊢
      rw [List.length_map] at h1
      have hy : y.toNat < W.cs.length := by omega
      have e : y = (y.toNat : Int) := by omega
      exact ⟨W.cs[y.toNat], (congrArg (atI (W.cs.map V.int)) e).trans (atI_nat (by rw [List.getElem?_map, List.getElem?_eq_getElem hy]; rfl))⟩
    refine ⟨.ref W.p, rfl, .inl ⟨W.p, _, 0, .ref W.c, rfl, rfl, .inl (.inl p2), rfl, .int t, rfl, .inl ⟨t, rfl, .ref W.p, rfl, .inl ⟨W.p, _, 0, .ref W.c, rfl, rfl, .inl (.inl p2), rfl, .ref W.c, _, rfl, .inl ⟨_, .inl (.inl c2), rfl⟩, t, _, rfl, rfl, hl2, .inl ⟨W.c, _, _, .int cell, rfl, rfl, .inl (.inl c2), hat, ?_⟩⟩⟩⟩⟩
    clear hat
    all_goals
      have xf : ∀ v : Int, 0 ≤ v → (v < many ∨ v = 0) → Q (.int v) H2 := fun v h6 h7 => fin H2 (t + 1) r v x2 p2 (by omega) (by omega) hr0 h6 h7
      have xg : ∀ y v : Int, 0 ≤ y → 0 ≤ v → (v < many ∨ v = 0) → Q (.int v) (upd H2 W.p (.lst ([V.ref W.c, .int (t + 1), .int r].set 2 (.int y)))) := fun y v h5 h6 h7 => fin _ (t + 1) y v (x2.trans xt_upd) upd_same (by omega) (by omega) h5 h6 h7
      refine ⟨.int t, rfl, .ref W.p, rfl, .inl ⟨W.p, _, 0, .ref W.c, rfl, rfl, .inl (.inl p2), rfl, .ref W.c, _, rfl, .inl ⟨_, .inl (.inl c2), rfl⟩, t, _, rfl, rfl, _, rfl, ?_⟩⟩
      -- the rest, shuffled
      have ps1 : (0 : Int) < 2147483549 := by decide
      have ps2 : (0 : Int) < 2147483587 := by decide
      have ps3 : (0 : Int) < 2147483563 := by decide
      have absv : ∀ x : Int, 0 ≤ (if x < 0 then -x else x) := fun x => by split <;> omega
      have k4 : ∀ c : Bool, ∀ (A B : Prop), (c = true → A) → (c = false → B) → if c = true then A else B := fun c A B h1 h2 => by
        cases c with
        | true => exact if_t rfl (h1 rfl)
        | false => exact if_f rfl (h2 rfl)
      by_cases h4 : t < ((W.cs.map V.int).length : Nat)
      rotate_left
      refine if_f (decide_eq_false h4) ?_
      refine if_f rfl ?_
      rotate_left
      refine if_t (decide_eq_true h4) ?_
      refine ⟨.int cell, rfl, cell, rfl, 10, 18, rfl, rfl, ⟨by decide, by decide, by decide⟩, _, _, rfl, rfl, _, rfl, ?_⟩
      by_cases h5 : (10 : Int) ^ (18 : Int).toNat ≤ (if cell < 0 then -cell else cell)
      rotate_left
      refine if_f (decide_eq_false h5) ?_
      rotate_left 2
      refine if_t (decide_eq_true h5) ?_
      refine ⟨.int cell, rfl, cell, rfl, 10, 18, rfl, rfl, ⟨by decide, by decide, by decide⟩, _, _, rfl, rfl, 2, _, rfl, rfl, .inl ⟨by decide, by decide⟩, .int cell, rfl, cell, 0, rfl, rfl, .inr ⟨_, rfl, _, _, rfl, rfl, ?_⟩⟩
      dsimp only
      have hrest : 0 ≤ 2 * ((if cell < 0 then -cell else cell) - 10 ^ (18 : Int).toNat) + (if decide (cell < 0) = true then (1 : Int) else 0) := by
        have : (0 : Int) ≤ (if decide (cell < 0) = true then (1 : Int) else 0) := by split <;> decide
        omega
      generalize 2 * ((if cell < 0 then -cell else cell) - 10 ^ (18 : Int).toNat) + (if decide (cell < 0) = true then (1 : Int) else 0) = rest at hrest ⊢
      refine ⟨.int rest, rfl, .inl ⟨rest, rfl, .int many, rfl, rest, many, rfl, rfl, cd rest, .ref W.p, rfl, W.p, _, 2, 2, rfl, rfl, p2, rfl, ?_⟩⟩
      refine ⟨.int rest, rfl, .inl ⟨rest, rfl, .int many, rfl, rest, many, rfl, rfl, hm0, ?_⟩⟩
      exact xg (rest / many) (rest % many) (Int.ediv_nonneg hrest (by omega)) (Int.emod_nonneg _ (by omega)) (.inl (Int.emod_lt_of_pos _ hm0))
      all_goals
        have hb1 := Int.emod_nonneg cell (show (2147483549 : Int) ≠ 0 by decide)
        have hb2 := Int.emod_lt_of_pos cell (show (0 : Int) < 2147483549 by decide)
        refine ⟨.int cell, rfl, .inl ⟨cell, rfl, cell, 2147483549, rfl, rfl, ps1, .int t, rfl, 83471, t, rfl, rfl, m1, _, _, rfl, rfl, _, 11319, rfl, rfl, _, 3, rfl, rfl, ⟨by decide, by decide, ?_⟩, .inl ⟨_, rfl, _, 2147483587, rfl, rfl, ps2, ?_⟩⟩⟩
        · clear fin xf xg absv k4
          omega
        dsimp only
        have hs0 := Int.emod_nonneg ((cell % 2147483549 + 83471 * t + 11319) ^ (3 : Int).toNat) (show (2147483587 : Int) ≠ 0 by decide)
        have hs1 := Int.emod_lt_of_pos ((cell % 2147483549 + 83471 * t + 11319) ^ (3 : Int).toNat) (show (0 : Int) < 2147483587 by decide)
        generalize (cell % 2147483549 + 83471 * t + 11319) ^ (3 : Int).toNat % 2147483587 = sh at hs0 hs1 ⊢
        have l1 : Lb 31 sh := by
          unfold Lb
          omega
        have l2 : Lb 21 (2 * t + 4357) := by
          unfold Lb
          omega
        have l3 : Lb 17 (90247 : Int) := lb_lit (by decide)
        have m2 : CMulW 2 t := cmul (j := 3) (k := 20) (lb_lit (by decide)) tl
        have m3 : CMulW sh (2 * t + 4357) := cmul l1 l2
        have m4 : CMulW 90247 t := cmul l3 tl
        have m5 : CMulW (90247 * t) t := cmul (l3.mul tl) tl
        have l4 : Lb 64 (sh * (2 * t + 4357) + 90247 * t * t + 83471) := ((((l1.mul l2).mono (show 31 + 21 ≤ 57 by decide)).add ((l3.mul tl).mul tl)).add (lb_lit (k := 58) (x := 83471) (by decide))).mono (by decide)
        refine ⟨.int sh, rfl, .int t, rfl, 2, t, rfl, rfl, m2, _, 4357, rfl, rfl, sh, _, rfl, rfl, m3, .int t, rfl, 90247, t, rfl, rfl, m4, .int t, rfl, _, t, rfl, rfl, m5, _, _, rfl, rfl, _, 83471, rfl, rfl, _, 5, rfl, rfl, ⟨by decide, by decide, l4⟩, .inl ⟨_, rfl, _, 2147483563, rfl, rfl, ps3, ?_⟩⟩
        refine ⟨.int _, rfl, _, 32, rfl, rfl, cdiv (k := 10) (by decide) (lb_lit (by decide)), .inl ⟨_, rfl, .int many, rfl, _, many, rfl, rfl, hm0, ?_⟩⟩
        exact xf _ (Int.emod_nonneg _ (by omega)) (.inl (Int.emod_lt_of_pos _ hm0))
end
end K58
set_option Elab.async false
set_option linter.all false
set_option maxRecDepth 100000
set_option maxHeartbeats 4000000
/-! K58E: the pen: _law_pen; law's promise. -/
namespace K58
open PySem PySem.Spec PyProof.Rows L2 Ab
abbrev s_pen : Stmt := topS 14
abbrev N_pen : List Str := ["script", "cell"]
theorem sc_pen : FnScope N_pen ["script"] (defScope s_pen) := ⟨rfl, rfl, rfl, by decide +kernel, rfl, by decide +kernel, by decide +kernel⟩
def spPen (K : PySem.W.Frag) : Sp := fun vs H Q _ => ∃ (a : Addr) (ns : List Int), vs = [.ref a] ∧ SqL K H a (ns.map V.int) ∧ ns.length ≤ 63 ∧
  ∀ (H' : Hp) (p c : Addr) (cs : List Int), Same H H' → H' p = some (.lst [.ref c, .int 0, .int 0]) → H' c = some (.lst (cs.map V.int)) → c ≠ p → Q (.ref p) H'
def spLaw (K : PySem.W.Frag) : Sp := fun vs H Q _ => ∃ (a : Addr) (ns : List Int), vs = [.ref a] ∧ SqL K H a (ns.map V.int) ∧ ns.length ≤ 63 ∧ ∀ H', Q (.bl true) H'
theorem same_new {H : Hp} {p : Addr} {o : HO} (h : H p = none) : Same H (upd H p o) := fun b x e => by
  rw [upd_ne (ne_of_none e h)]
  exact e
section
variable {P : Program} {w : World} {K : PySem.W.Frag} {mg : Str → Option Value} {base : Heap}
theorem ok_pen {f : Addr} {fd : FuncData} {k : Nat} (fx : Fx mg) (F : Fun K "_law_pen" "_law_pen" s_pen f fd) : FnOk P w K mg base CX0 (k + 1) f fd ["script"] (spPen K) := by
  refine F.ok sc_pen (fun vs H Q E h => ?_) (fun cdv A outer s H vs Q E hr h => ?_)
  · obtain ⟨a, ns, rfl, _⟩ := h
    rfl
  · obtain ⟨a, ns, rfl, hS, hl, q⟩ := h
    refine ⟨_, pss_one (ps_ret (pe_lst (pa_cons (pe_lc (own := [("cell", 1)]) rfl sc_pen.nd (pi_list (pe_slice sl_list (pv 0) po_none (po_some pe_int))) (blkOk_by (own := [("cell", 1)]) (N := N_pen) (sc := defScope s_pen) (by decide +kernel))
      (fun _ _ _ _ _ => pg_name (i := 1) sc_pen.nd rfl (by first | exact Or.inl rfl | exact Or.inr rfl)) (fun _ _ _ _ _ => pts_nil) (fun _ _ _ _ _ => pe_callTy call_int1 (by rfl) fx.b_int (by decide +kernel) (pa_cons (pv 1) pa_nil))) (pa_cons pe_int (pa_cons pe_int pa_nil))))), ?_⟩
    refine ⟨.ref a, rfl, 63, rfl, a, ns.map V.int, rfl, hS, fun s nos => ?_⟩
    refine ⟨s, rfl, ⟨_, .inl (.inl upd_same)⟩, fun D hD => ?_⟩
    have ecut : cutV (ns.map V.int) none (some 63) = ns.map V.int := by
      unfold cutV
      rw [HT.sIx_none, show HT.sIx (ns.map V.int).length (ns.map V.int).length (some 63) = min 63 (ns.map V.int).length from HT.sIx_nat _ _ 63]
      show List.take (min 63 (ns.map V.int).length - 0) (ns.map V.int) = ns.map V.int
      apply List.take_of_length_le
      rw [List.length_map]
      omega
    rw [ecut] at hD ⊢
    have sm1 : Same H (upd H s (.lst (ns.map V.int))) := same_new nos
    have hsD : s ≠ D := fun e => by
      rw [← e, upd_same] at hD
      cases hD
    refine lc_it (walk_list (K := K) (a := s) (xs := ns.map V.int)) (fun i H' => Same H H' ∧ H' s = some (.lst (ns.map V.int)) ∧ H' D = some (.lst ((ns.take i).map V.int))) ⟨sm1.trans (same_new hD), ?_, upd_same⟩ (fun i H' _ h => .inl (.inl h.2.1)) ?_ ?_
    · rw [upd_ne hsD]
      exact upd_same
    · rintro i x H1 H' hi ⟨h1, h2, h3⟩ ⟨rfl, hx⟩
      rw [List.getElem?_map] at hx
      cases hc : ns[i]? with
      | none =>
        rw [hc] at hx
        cases hx
      | some c =>
        rw [hc] at hx
        cases hx
        refine ⟨rfl, ?_⟩
        rw [tYes, if_pos rfl]
        refine ⟨.int c, rfl, .inl ⟨c, rfl, (ns.take i).map V.int, h3, ?_, ?_, ?_, ?_⟩⟩
        · rw [List.length_map, List.length_take]
          exact small1000 (by omega)
        · exact fun b o e => by
            by_cases hb : b = D
            · subst hb
              -- D is new: H b = none
              have : H b = none := by
                cases q : H b with
                | none => rfl
                | some z =>
                  have := sm1 _ _ q
                  rw [hD] at this
                  cases this
              rw [this] at e
              cases e
            · rw [upd_ne hb]
              exact h1 b o e
        · rw [upd_ne hsD]
          exact h2
        · rw [upd_same, List.take_add_one, hc, List.map_append]
          rfl
    · rintro H' ⟨h1, h2, h3⟩
      refine ⟨Nat.le_of_ble_eq_true rfl, fun p np => ?_⟩
      have hDp : D ≠ p := fun e => by
        rw [← e, h3] at np
        cases np
      refine q (upd H' p (.lst [.ref D, .int 0, .int 0])) p D (ns.take (ns.map V.int).length) (h1.trans (same_new np)) upd_same ?_ hDp
      rw [upd_ne hDp]
      exact h3
end
end K58
set_option Elab.async false
set_option linter.all false
set_option maxRecDepth 100000
set_option maxHeartbeats 4000000
/-! K58F: the defs together; law's promise. -/
namespace K58
open PySem PySem.Spec PyProof.Rows L2 Ab
/-- a def as the top has written it -/
structure DefIn (K : PySem.W.Frag) (x : Str) (st : Stmt) : Prop where
  ex : ∃ (f : Addr) (fd : FuncData), PySem.W.nsIn K mainGlobals x = some (some (.ref f)) ∧ Fun K x x st f fd
theorem DefIn.of {K : PySem.W.Frag} {x : Str} {st : Stmt} {f : Addr} {oc : Value} {od an : Option Addr} {osl : Array (Option Value)} {kV doc pm cdv ct : Value} (a : PySem.W.nsIn K mainGlobals x = some (some (.ref f))) (l : K.lookup f = some ⟨oc, od, .func (PySem.W.fnOf x x (defArgs st) (defBody st) (defScope st) .none kV doc pm an cdv ct), osl⟩)
    (c : PySem.W.codeIn K cdv x = true) (k : PySem.W.keepIn K (.ref f) = true) : DefIn K x st := ⟨_, _, a, fun_mk l c k⟩
section
variable {P : Program} {w : World} {K : PySem.W.Frag} {mg : Str → Option Value} {base : Heap}
theorem law_pen {p c : Addr} {cs : List Int} {H' : Hp} (h1 : H' p = some (.lst [.ref c, .int 0, .int 0])) (h2 : H' c = some (.lst (cs.map V.int))) (hcp : c ≠ p) {σ : L2.St} (hl : σ.length = 16) (hp : σ[1]? = some (some (.ref p))) :
    Rp { K := K, B := H', S := (· = p), p := p, c := c, cs := cs } 0 (LE .un .un .un .un .un .un .un .un .un .un .un .un) σ H' := by
  have noown : ∀ (i : Nat) ds, (LE .un .un .un .un .un .un .un .un .un .un .un .un)[i]? ≠ some (.own ds) := fun i ds e => by
    match i with
    | 0 | 1 | 2 | 3 | 4 | 5 | 6 | 7 | 8 | 9 | 10 | 11 | 12 | 13 | 14 | 15 => cases e
    | i + 16 => cases e
  have nodat : ∀ (i : Nat) d, (LE .un .un .un .un .un .un .un .un .un .un .un .un)[i]? ≠ some (.dat d) := fun i ds e => by
    match i with
    | 0 | 1 | 2 | 3 | 4 | 5 | 6 | 7 | 8 | 9 | 10 | 11 | 12 | 13 | 14 | 15 => cases e
    | i + 16 => cases e
  refine ⟨h2, (by show H' p ≠ none; rw [h1]; exact Option.some_ne_none _), rfl, hcp, fun a h => ?_, fun a o h _ => h, ⟨0, 0, h1, by decide, by decide, by decide⟩, by rw [hl]; rfl, fun i d h => absurd h (nodat i d), fun i ds h => absurd h (noown i ds), fun i j ds es a h => absurd h (noown i ds), fun i h => ?_⟩
  · have e : a = p := h
    subst e
    rw [h1]
    exact Option.some_ne_none _
  · match i with
    | 1 => exact hp
    | 0 | 2 | 3 | 4 | 5 | 6 | 7 | 8 | 9 | 10 | 11 | 12 | 13 | 14 | 15 => cases h
    | i + 16 => cases h
theorem ok_law {f : Addr} {fd : FuncData} (fx : Fx mg) (mgd : ∀ (x : Str) (f : Addr), PySem.W.nsIn K mainGlobals x = some (some (.ref f)) → mg x = some (.ref f)) (F : Fun K "law" "law" s_law f fd) (d_pen : DefIn K "_law_pen" s_pen) (d_value : DefIn K "value" s_value) (d_common : DefIn K "common" s_common) (d_in_lowest : DefIn K "in_lowest" s_in_lowest) (d_ends_of : DefIn K "ends_of" s_ends_of) (d_line_through : DefIn K "line_through" s_line_through) (d_stretch_ends : DefIn K "stretch_ends" s_stretch_ends) (d_point_borders : DefIn K "point_borders" s_point_borders) (d_borders : DefIn K "borders" s_borders) (d_is_in : DefIn K "is_in" s_is_in) (d_is_inner : DefIn K "is_inner" s_is_inner) (d__law_draw : DefIn K "_law_draw" s_draw) (d__law_pick : DefIn K "_law_pick" s__law_pick) (d__law_p_gcd : DefIn K "_law_p_gcd" s__law_p_gcd) (d__law_p_point : DefIn K "_law_p_point" s__law_p_point) (d__law_p_value : DefIn K "_law_p_value" s__law_p_value) (d__law_p_before : DefIn K "_law_p_before" s__law_p_before) (d__law_p_sorted : DefIn K "_law_p_sorted" s__law_p_sorted) (d__law_p_side : DefIn K "_law_p_side" s__law_p_side) (d__law_p_around : DefIn K "_law_p_around" s__law_p_around) (d__law_p_mixture : DefIn K "_law_p_mixture" s__law_p_mixture) (d__law_b_lowest : DefIn K "_law_b_lowest" s__law_b_lowest) (d__law_b_through : DefIn K "_law_b_through" s__law_b_through) (d__law_b_lines : DefIn K "_law_b_lines" s__law_b_lines) : FnOk P w K mg base CX0 5 f fd ["script"] (spLaw K) := by
  obtain ⟨fp, fdp, ap, Fp⟩ := d_pen.ex
  have G_pen : FnOk P w K mg base CX0 1 fp fdp ["script"] (spPen K) := ok_pen fx Fp
  have b_pen : Binds K fdp ["script"] [] := Fp.binds (ps := ["script"]) fun _ _ _ _ _ _ us hl => match us, hl with | [_], _ => rfl
  obtain ⟨f0, fd0, a0, F0⟩ := d_value.ex
  have g_value : FnOk P w K mg base CX0 1 f0 fd0 ["plane", "point"] (spA K asp_value) := okA F0 sc_value (fun avs n Q h => by
      obtain ⟨_, _, rfl, _⟩ := h
      rfl) (fun cdv A outer s H E hr => bd_value fx  cdv A outer s H E hr) plain_value
  have c_value : Cal P w K mg base 1 "value" ["plane", "point"] asp_value := ⟨f0, fd0, g_value, mgd _ _ a0, F0.kp, F0.binds (ps := ["plane", "point"]) fun _ _ _ _ _ _ us hl => match us, hl with | [_, _], _ => rfl⟩
  obtain ⟨f1, fd1, a1, F1⟩ := d_common.ex
  have g_common : FnOk P w K mg base CX0 1 f1 fd1 ["numbers"] (spA K asp_common) := okA F1 sc_common (fun avs n Q h => by
      obtain ⟨_, rfl, _⟩ := h
      rfl) (fun cdv A outer s H E hr => bd_common fx  cdv A outer s H E hr) plain_common
  have c_common : Cal P w K mg base 1 "common" ["numbers"] asp_common := ⟨f1, fd1, g_common, mgd _ _ a1, F1.kp, F1.binds (ps := ["numbers"]) fun _ _ _ _ _ _ us hl => match us, hl with | [_], _ => rfl⟩
  obtain ⟨f2, fd2, a2, F2⟩ := d_in_lowest.ex
  have g_in_lowest : FnOk P w K mg base CX0 2 f2 fd2 ["base", "counts"] (spA K asp_in_lowest) := okA F2 sc_in_lowest (fun avs n Q h => by
      obtain ⟨_, rfl, _⟩ := h
      rfl) (fun cdv A outer s H E hr => bd_in_lowest fx c_common cdv A outer s H E hr) plain_in_lowest
  have c_in_lowest : Cal P w K mg base 2 "in_lowest" ["base", "counts"] asp_in_lowest := ⟨f2, fd2, g_in_lowest, mgd _ _ a2, F2.kp, F2.binds (ps := ["base", "counts"]) fun _ _ _ _ _ _ us hl => match us, hl with | [_, _], _ => rfl⟩
  obtain ⟨f3, fd3, a3, F3⟩ := d_ends_of.ex
  have g_ends_of : FnOk P w K mg base CX0 1 f3 fd3 ["corners"] (spA K asp_ends_of) := okA F3 sc_ends_of (fun avs n Q h => by
      obtain ⟨_, _, _, rfl, _⟩ := h
      rfl) (fun cdv A outer s H E hr => bd_ends_of  cdv A outer s H E hr) plain_ends_of
  have c_ends_of : Cal P w K mg base 1 "ends_of" ["corners"] asp_ends_of := ⟨f3, fd3, g_ends_of, mgd _ _ a3, F3.kp, F3.binds (ps := ["corners"]) fun _ _ _ _ _ _ us hl => match us, hl with | [_], _ => rfl⟩
  obtain ⟨f4, fd4, a4, F4⟩ := d_line_through.ex
  have g_line_through : FnOk P w K mg base CX0 1 f4 fd4 ["one", "other"] (spA K asp_line_through) := okA F4 sc_line_through (fun avs n Q h => by
      obtain ⟨_, _, rfl, _⟩ := h
      rfl) (fun cdv A outer s H E hr => bd_line_through  cdv A outer s H E hr) plain_line_through
  have c_line_through : Cal P w K mg base 1 "line_through" ["one", "other"] asp_line_through := ⟨f4, fd4, g_line_through, mgd _ _ a4, F4.kp, F4.binds (ps := ["one", "other"]) fun _ _ _ _ _ _ us hl => match us, hl with | [_, _], _ => rfl⟩
  obtain ⟨f5, fd5, a5, F5⟩ := d_stretch_ends.ex
  have g_stretch_ends : FnOk P w K mg base CX0 1 f5 fd5 ["one", "other"] (spA K asp_stretch_ends) := okA F5 sc_stretch_ends (fun avs n Q h => by
      obtain ⟨_, _, rfl, _⟩ := h
      rfl) (fun cdv A outer s H E hr => bd_stretch_ends  cdv A outer s H E hr) plain_stretch_ends
  have c_stretch_ends : Cal P w K mg base 1 "stretch_ends" ["one", "other"] asp_stretch_ends := ⟨f5, fd5, g_stretch_ends, mgd _ _ a5, F5.kp, F5.binds (ps := ["one", "other"]) fun _ _ _ _ _ _ us hl => match us, hl with | [_, _], _ => rfl⟩
  obtain ⟨f6, fd6, a6, F6⟩ := d_point_borders.ex
  have g_point_borders : FnOk P w K mg base CX0 1 f6 fd6 ["point"] (spA K asp_point_borders) := okA F6 sc_point_borders (fun avs n Q h => by
      obtain ⟨_, rfl, _⟩ := h
      rfl) (fun cdv A outer s H E hr => bd_point_borders  cdv A outer s H E hr) plain_point_borders
  have c_point_borders : Cal P w K mg base 1 "point_borders" ["point"] asp_point_borders := ⟨f6, fd6, g_point_borders, mgd _ _ a6, F6.kp, F6.binds (ps := ["point"]) fun _ _ _ _ _ _ us hl => match us, hl with | [_], _ => rfl⟩
  obtain ⟨f7, fd7, a7, F7⟩ := d_borders.ex
  have g_borders : FnOk P w K mg base CX0 3 f7 fd7 ["corners"] (spA K asp_borders) := okA F7 sc_borders (fun avs n Q h => by
      obtain ⟨_, _, rfl, _⟩ := h
      rfl) (fun cdv A outer s H E hr => bd_borders fx c_ends_of c_point_borders c_line_through c_stretch_ends c_in_lowest cdv A outer s H E hr) plain_borders
  have c_borders : Cal P w K mg base 3 "borders" ["corners"] asp_borders := ⟨f7, fd7, g_borders, mgd _ _ a7, F7.kp, F7.binds (ps := ["corners"]) fun _ _ _ _ _ _ us hl => match us, hl with | [_], _ => rfl⟩
  obtain ⟨f8, fd8, a8, F8⟩ := d_is_in.ex
  have g_is_in : FnOk P w K mg base CX0 4 f8 fd8 ["corners", "point"] (spA K asp_is_in) := okA F8 sc_is_in (fun avs n Q h => by
      obtain ⟨_, _, _, rfl, _⟩ := h
      rfl) (fun cdv A outer s H E hr => bd_is_in fx c_borders c_value cdv A outer s H E hr) plain_is_in
  have c_is_in : Cal P w K mg base 4 "is_in" ["corners", "point"] asp_is_in := ⟨f8, fd8, g_is_in, mgd _ _ a8, F8.kp, F8.binds (ps := ["corners", "point"]) fun _ _ _ _ _ _ us hl => match us, hl with | [_, _], _ => rfl⟩
  obtain ⟨f9, fd9, a9, F9⟩ := d_is_inner.ex
  have g_is_inner : FnOk P w K mg base CX0 4 f9 fd9 ["corners", "point"] (spA K asp_is_inner) := okA F9 sc_is_inner (fun avs n Q h => by
      obtain ⟨_, _, _, rfl, _⟩ := h
      rfl) (fun cdv A outer s H E hr => bd_is_inner fx c_borders c_value cdv A outer s H E hr) plain_is_inner
  have c_is_inner : Cal P w K mg base 4 "is_inner" ["corners", "point"] asp_is_inner := ⟨f9, fd9, g_is_inner, mgd _ _ a9, F9.kp, F9.binds (ps := ["corners", "point"]) fun _ _ _ _ _ _ us hl => match us, hl with | [_, _], _ => rfl⟩
  obtain ⟨f10, fd10, a10, F10⟩ := d__law_draw.ex
  have g__law_draw : FnOk P w K mg base CX0 1 f10 fd10 ["pen", "many"] (spA K asp__law_draw) := ok_draw fx F10
  have c__law_draw : Cal P w K mg base 1 "_law_draw" ["pen", "many"] asp__law_draw := ⟨f10, fd10, g__law_draw, mgd _ _ a10, F10.kp, F10.binds (ps := ["pen", "many"]) fun _ _ _ _ _ _ us hl => match us, hl with | [_, _], _ => rfl⟩
  obtain ⟨f11, fd11, a11, F11⟩ := d__law_pick.ex
  have g__law_pick : FnOk P w K mg base CX0 2 f11 fd11 ["pen", "some"] (spA K asp__law_pick) := okA F11 sc__law_pick (fun avs n Q h => by
      obtain ⟨_, rfl, _⟩ := h
      rfl) (fun cdv A outer s H E hr => bd__law_pick fx c__law_draw cdv A outer s H E hr) plain__law_pick
  have c__law_pick : Cal P w K mg base 2 "_law_pick" ["pen", "some"] asp__law_pick := ⟨f11, fd11, g__law_pick, mgd _ _ a11, F11.kp, F11.binds (ps := ["pen", "some"]) fun _ _ _ _ _ _ us hl => match us, hl with | [_, _], _ => rfl⟩
  obtain ⟨f12, fd12, a12, F12⟩ := d__law_p_gcd.ex
  have g__law_p_gcd : FnOk P w K mg base CX0 1 f12 fd12 ["one", "other"] (spA K asp__law_p_gcd) := okA F12 sc__law_p_gcd (fun avs n Q h => by
      obtain ⟨_, _, rfl, _⟩ := h
      rfl) (fun cdv A outer s H E hr => bd__law_p_gcd fx  cdv A outer s H E hr) plain__law_p_gcd
  have c__law_p_gcd : Cal P w K mg base 1 "_law_p_gcd" ["one", "other"] asp__law_p_gcd := ⟨f12, fd12, g__law_p_gcd, mgd _ _ a12, F12.kp, F12.binds (ps := ["one", "other"]) fun _ _ _ _ _ _ us hl => match us, hl with | [_, _], _ => rfl⟩
  obtain ⟨f13, fd13, a13, F13⟩ := d__law_p_point.ex
  have g__law_p_point : FnOk P w K mg base CX0 2 f13 fd13 ["q", "numbers"] (spA K asp__law_p_point) := okA F13 sc__law_p_point (fun avs n Q h => by
      obtain ⟨_, _, rfl, _⟩ := h
      rfl) (fun cdv A outer s H E hr => bd__law_p_point fx c__law_p_gcd cdv A outer s H E hr) plain__law_p_point
  have c__law_p_point : Cal P w K mg base 2 "_law_p_point" ["q", "numbers"] asp__law_p_point := ⟨f13, fd13, g__law_p_point, mgd _ _ a13, F13.kp, F13.binds (ps := ["q", "numbers"]) fun _ _ _ _ _ _ us hl => match us, hl with | [_, _], _ => rfl⟩
  obtain ⟨f14, fd14, a14, F14⟩ := d__law_p_value.ex
  have g__law_p_value : FnOk P w K mg base CX0 1 f14 fd14 ["plane", "point"] (spA K asp__law_p_value) := okA F14 sc__law_p_value (fun avs n Q h => by
      obtain ⟨_, _, rfl, _⟩ := h
      rfl) (fun cdv A outer s H E hr => bd__law_p_value fx  cdv A outer s H E hr) plain__law_p_value
  have c__law_p_value : Cal P w K mg base 1 "_law_p_value" ["plane", "point"] asp__law_p_value := ⟨f14, fd14, g__law_p_value, mgd _ _ a14, F14.kp, F14.binds (ps := ["plane", "point"]) fun _ _ _ _ _ _ us hl => match us, hl with | [_, _], _ => rfl⟩
  obtain ⟨f15, fd15, a15, F15⟩ := d__law_p_before.ex
  have g__law_p_before : FnOk P w K mg base CX0 1 f15 fd15 ["one", "other"] (spA K asp__law_p_before) := okA F15 sc__law_p_before (fun avs n Q h => by
      obtain ⟨_, _, rfl, _⟩ := h
      rfl) (fun cdv A outer s H E hr => bd__law_p_before fx  cdv A outer s H E hr) plain__law_p_before
  have c__law_p_before : Cal P w K mg base 1 "_law_p_before" ["one", "other"] asp__law_p_before := ⟨f15, fd15, g__law_p_before, mgd _ _ a15, F15.kp, F15.binds (ps := ["one", "other"]) fun _ _ _ _ _ _ us hl => match us, hl with | [_, _], _ => rfl⟩
  obtain ⟨f16, fd16, a16, F16⟩ := d__law_p_sorted.ex
  have g__law_p_sorted : FnOk P w K mg base CX0 2 f16 fd16 ["points"] (spA K asp__law_p_sorted) := okA F16 sc__law_p_sorted (fun avs n Q h => by
      obtain ⟨_, rfl, _⟩ := h
      rfl) (fun cdv A outer s H E hr => bd__law_p_sorted fx c__law_p_before cdv A outer s H E hr) plain__law_p_sorted
  have c__law_p_sorted : Cal P w K mg base 2 "_law_p_sorted" ["points"] asp__law_p_sorted := ⟨f16, fd16, g__law_p_sorted, mgd _ _ a16, F16.kp, F16.binds (ps := ["points"]) fun _ _ _ _ _ _ us hl => match us, hl with | [_], _ => rfl⟩
  obtain ⟨f17, fd17, a17, F17⟩ := d__law_p_side.ex
  have g__law_p_side : FnOk P w K mg base CX0 1 f17 fd17 ["one", "other", "third"] (spA K asp__law_p_side) := okA F17 sc__law_p_side (fun avs n Q h => by
      obtain ⟨_, _, _, rfl, _⟩ := h
      rfl) (fun cdv A outer s H E hr => bd__law_p_side fx  cdv A outer s H E hr) plain__law_p_side
  have c__law_p_side : Cal P w K mg base 1 "_law_p_side" ["one", "other", "third"] asp__law_p_side := ⟨f17, fd17, g__law_p_side, mgd _ _ a17, F17.kp, F17.binds (ps := ["one", "other", "third"]) fun _ _ _ _ _ _ us hl => match us, hl with | [_, _, _], _ => rfl⟩
  obtain ⟨f18, fd18, a18, F18⟩ := d__law_p_around.ex
  have g__law_p_around : FnOk P w K mg base CX0 2 f18 fd18 ["points"] (spA K asp__law_p_around) := okA F18 sc__law_p_around (fun avs n Q h => by
      obtain ⟨_, rfl, _⟩ := h
      rfl) (fun cdv A outer s H E hr => bd__law_p_around fx c__law_p_side cdv A outer s H E hr) plain__law_p_around
  have c__law_p_around : Cal P w K mg base 2 "_law_p_around" ["points"] asp__law_p_around := ⟨f18, fd18, g__law_p_around, mgd _ _ a18, F18.kp, F18.binds (ps := ["points"]) fun _ _ _ _ _ _ us hl => match us, hl with | [_], _ => rfl⟩
  obtain ⟨f19, fd19, a19, F19⟩ := d__law_p_mixture.ex
  have g__law_p_mixture : FnOk P w K mg base CX0 3 f19 fd19 ["pen", "points"] (spA K asp__law_p_mixture) := okA F19 sc__law_p_mixture (fun avs n Q h => by
      obtain ⟨_, _, rfl, _⟩ := h
      rfl) (fun cdv A outer s H E hr => bd__law_p_mixture fx c__law_draw c__law_p_point cdv A outer s H E hr) plain__law_p_mixture
  have c__law_p_mixture : Cal P w K mg base 3 "_law_p_mixture" ["pen", "points"] asp__law_p_mixture := ⟨f19, fd19, g__law_p_mixture, mgd _ _ a19, F19.kp, F19.binds (ps := ["pen", "points"]) fun _ _ _ _ _ _ us hl => match us, hl with | [_, _], _ => rfl⟩
  obtain ⟨f20, fd20, a20, F20⟩ := d__law_b_lowest.ex
  have g__law_b_lowest : FnOk P w K mg base CX0 2 f20 fd20 ["base", "counts"] (spA K asp__law_b_lowest) := okA F20 sc__law_b_lowest (fun avs n Q h => by
      obtain ⟨_, rfl, _⟩ := h
      rfl) (fun cdv A outer s H E hr => bd__law_b_lowest fx c__law_p_gcd cdv A outer s H E hr) plain__law_b_lowest
  have c__law_b_lowest : Cal P w K mg base 2 "_law_b_lowest" ["base", "counts"] asp__law_b_lowest := ⟨f20, fd20, g__law_b_lowest, mgd _ _ a20, F20.kp, F20.binds (ps := ["base", "counts"]) fun _ _ _ _ _ _ us hl => match us, hl with | [_, _], _ => rfl⟩
  obtain ⟨f21, fd21, a21, F21⟩ := d__law_b_through.ex
  have g__law_b_through : FnOk P w K mg base CX0 3 f21 fd21 ["one", "other"] (spA K asp__law_b_through) := okA F21 sc__law_b_through (fun avs n Q h => by
      obtain ⟨_, _, rfl, _⟩ := h
      rfl) (fun cdv A outer s H E hr => bd__law_b_through c__law_b_lowest cdv A outer s H E hr) plain__law_b_through
  have c__law_b_through : Cal P w K mg base 3 "_law_b_through" ["one", "other"] asp__law_b_through := ⟨f21, fd21, g__law_b_through, mgd _ _ a21, F21.kp, F21.binds (ps := ["one", "other"]) fun _ _ _ _ _ _ us hl => match us, hl with | [_, _], _ => rfl⟩
  obtain ⟨f22, fd22, a22, F22⟩ := d__law_b_lines.ex
  have g__law_b_lines : FnOk P w K mg base CX0 4 f22 fd22 ["corners"] (spA K asp__law_b_lines) := okA F22 sc__law_b_lines (fun avs n Q h => by
      obtain ⟨_, rfl, _⟩ := h
      rfl) (fun cdv A outer s H E hr => bd__law_b_lines fx c__law_b_lowest c__law_b_through cdv A outer s H E hr) plain__law_b_lines
  have c__law_b_lines : Cal P w K mg base 4 "_law_b_lines" ["corners"] asp__law_b_lines := ⟨f22, fd22, g__law_b_lines, mgd _ _ a22, F22.kp, F22.binds (ps := ["corners"]) fun _ _ _ _ _ _ us hl => match us, hl with | [_], _ => rfl⟩
  have ck_borders : CalK P w K mg base 3 "borders" ["corners"] ["corners"] gId asp_borders := by
    refine ⟨f7, fd7, g_borders, mgd _ _ a7, F7.kp, ?_⟩
    obtain ⟨oc, od, kV, doc, pm, an, cdv, ct, osl, rfl, lk, hcd⟩ := F7.ex
    exact ⟨fun ws hl => match ws, hl with | [_], _ => rfl⟩
  have ck_is_inner : CalK P w K mg base 4 "is_inner" ["corners", "point"] ["point", "corners"] gRev asp_is_inner := by
    refine ⟨f9, fd9, g_is_inner, mgd _ _ a9, F9.kp, ?_⟩
    obtain ⟨oc, od, kV, doc, pm, an, cdv, ct, osl, rfl, lk, hcd⟩ := F9.ex
    refine ⟨fun ws hl => ?_⟩
    have hl2 : ws.length = 2 := by
      have h2 : ws.reverse.length = 2 := hl
      rw [List.length_reverse] at h2
      exact h2
    match ws, hl2 with
    | [_, _], _ => rfl
  refine F.ok sc_law (fun vs H Q E h => ?_) (fun cdv A outer s H vs Q E hr h => ?_)
  · obtain ⟨a, ns, rfl, _⟩ := h
    rfl
  · obtain ⟨a, ns, rfl, hS, hl, q⟩ := h
    refine ⟨_, pss_cons (ps_set (i := 1) sc_law.nd rfl (by first | exact Or.inl rfl | exact Or.inr rfl) (pe_call G_pen (hr.mono (by decide)) (by rfl) (mgd _ _ ap) Fp.kp b_pen .nil pass0 (pa_cons (pv 0) pa_nil)))
      (bd_law fx c__law_draw c__law_pick c__law_p_point c__law_p_around c__law_p_sorted c_borders c__law_b_lines ck_borders c__law_p_mixture c__law_p_value c_is_inner ck_is_inner c_is_in cdv A outer s H E hr), ?_⟩
    refine ⟨.ref a, rfl, a, ns, rfl, hS, hl, fun H' p c cs sm h1 h2 hcp => ?_⟩
    refine ⟨{ K := K, B := H', S := (· = p), p := p, c := c, cs := cs }, 0, _, K58.E (fun av _ => av = .st (.bl true)), rfl, law_pen h1 h2 hcp rfl rfl, plain_law fun _ => rfl, ?_⟩
    refine ⟨fun ρ n σ H R h => ?_, fun ρ n σ H R h => False.elim h, fun ρ n σ H R h => False.elim h, fun v H av n r h => ?_⟩
    · have h2 : (AV.st .non) = AV.st (.bl true) := h
      cases h2
    have e : av = .st (.bl true) := h
    subst e
    obtain ⟨_, _, r⟩ := r
    cases r
    exact q H
end
end K58
set_option Elab.async false
set_option linter.all false
set_option maxRecDepth 100000
set_option maxHeartbeats 4000000
/-! K58Z: what the top has written; the end. -/
namespace K58
open PySem PySem.Spec PyProof.Rows L2 Ab
theorem all_mk {l : PySem.W.OpenLaw} {w : World} {K : PySem.W.Frag} {h : Heap} {mg : Str → Option Value} {fa f2 : Addr} (X : K.In h) (G : h.Ns mainGlobals mg) (hfa : mg "law" = some (.ref fa))
    {od2 an2 : Option Addr} {sl2 : Array (Option Value)} {oc2 kV2 dc2 pm2 cd2 ct2 : Value}
    (al : PySem.W.nsIn K mainGlobals "law" = some (some (.ref f2))) (ll : K.lookup f2 = some ⟨oc2, od2, .func (PySem.W.fnOf "law" "law" (defArgs s_law) (defBody s_law) (defScope s_law) .none kV2 dc2 pm2 an2 cd2 ct2), sl2⟩) (cl : PySem.W.codeIn K cd2 "law" = true) (kl : PySem.W.keepIn K (.ref f2) = true)
    (z_gcd : PySem.W.nsIn K mainGlobals "gcd" = some (some (.builtin "math.gcd"))) (z_zip : PySem.W.nsIn K mainGlobals "zip" = some none) (z_max : PySem.W.nsIn K mainGlobals "max" = some none) (z_repr : PySem.W.nsIn K mainGlobals "repr" = some none) (z_len : PySem.W.nsIn K mainGlobals "len" = some none) (z_list : PySem.W.nsIn K mainGlobals "list" = some none) (z_sum : PySem.W.nsIn K mainGlobals "sum" = some none) (z_all : PySem.W.nsIn K mainGlobals "all" = some none) (z_tuple : PySem.W.nsIn K mainGlobals "tuple" = some none) (z_abs : PySem.W.nsIn K mainGlobals "abs" = some none) (z_range : PySem.W.nsIn K mainGlobals "range" = some none) (z_min : PySem.W.nsIn K mainGlobals "min" = some none) (z_int : PySem.W.nsIn K mainGlobals "int" = some none)
    (d_pen : DefIn K "_law_pen" s_pen) (d_value : DefIn K "value" s_value) (d_common : DefIn K "common" s_common) (d_in_lowest : DefIn K "in_lowest" s_in_lowest) (d_ends_of : DefIn K "ends_of" s_ends_of) (d_line_through : DefIn K "line_through" s_line_through) (d_stretch_ends : DefIn K "stretch_ends" s_stretch_ends) (d_point_borders : DefIn K "point_borders" s_point_borders) (d_borders : DefIn K "borders" s_borders) (d_is_in : DefIn K "is_in" s_is_in) (d_is_inner : DefIn K "is_inner" s_is_inner) (d__law_draw : DefIn K "_law_draw" s_draw) (d__law_pick : DefIn K "_law_pick" s__law_pick) (d__law_p_gcd : DefIn K "_law_p_gcd" s__law_p_gcd) (d__law_p_point : DefIn K "_law_p_point" s__law_p_point) (d__law_p_value : DefIn K "_law_p_value" s__law_p_value) (d__law_p_before : DefIn K "_law_p_before" s__law_p_before) (d__law_p_sorted : DefIn K "_law_p_sorted" s__law_p_sorted) (d__law_p_side : DefIn K "_law_p_side" s__law_p_side) (d__law_p_around : DefIn K "_law_p_around" s__law_p_around) (d__law_p_mixture : DefIn K "_law_p_mixture" s__law_p_mixture) (d__law_b_lowest : DefIn K "_law_b_lowest" s__law_b_lowest) (d__law_b_through : DefIn K "_law_b_through" s__law_b_through) (d__law_b_lines : DefIn K "_law_b_lines" s__law_b_lines) :
    ∃ fd : FuncData, (∀ (s : Shared) (v : Value), BindsTo s fd ⟨[v], []⟩ [("script", v)]) ∧ ∀ base : Heap, K.In base → base.Ns mainGlobals mg → FnOk l.prog w K mg base CX0 5 fa fd ["script"] (spLaw K) := by
  have e := hfa.symm.trans (PySem.W.mg_of X G al)
  cases e
  have F2 := fun_mk (st := s_law) ll cl kl
  have fx : Fx mg := { b_zip := PySem.W.mg_none_of X G z_zip, b_max := PySem.W.mg_none_of X G z_max, b_repr := PySem.W.mg_none_of X G z_repr, b_len := PySem.W.mg_none_of X G z_len, b_list := PySem.W.mg_none_of X G z_list, b_sum := PySem.W.mg_none_of X G z_sum, b_all := PySem.W.mg_none_of X G z_all, b_tuple := PySem.W.mg_none_of X G z_tuple, b_abs := PySem.W.mg_none_of X G z_abs, b_range := PySem.W.mg_none_of X G z_range, b_min := PySem.W.mg_none_of X G z_min, b_int := PySem.W.mg_none_of X G z_int, b_gcd := PySem.W.mg_of X G z_gcd }
  exact ⟨PySem.W.fnOf "law" "law" (defArgs s_law) (defBody s_law) (defScope s_law) .none kV2 dc2 pm2 an2 cd2 ct2, fun s v => .of_eq rfl, fun base _ _ => ok_law fx (fun x f a => PySem.W.mg_of X G a) F2 d_pen d_value d_common d_in_lowest d_ends_of d_line_through d_stretch_ends d_point_borders d_borders d_is_in d_is_inner d__law_draw d__law_pick d__law_p_gcd d__law_p_point d__law_p_value d__law_p_before d__law_p_sorted d__law_p_side d__law_p_around d__law_p_mixture d__law_b_lowest d__law_b_through d__law_b_lines⟩
end K58
open PySem PySem.W PyProof.Rows
set_option maxHeartbeats 0 in
theorem PySem.Challenge.cw_termmaps_k58_borders_by_their_words_holds : PySem.Challenge.rw_termmaps_k58_borders_by_their_words.Holds := by
  w_on; o_law; k_head; (case hw => w_witness2)
  k_fill
  refine L2.walk_of (l := PySem.Challenge.rw_termmaps_k58_borders_by_their_words) (n := 63) (k := 5) (x := "script") (CX := fun _ => L2.CX0) (sp := fun w => K58.spLaw _) rfl (by decide) rfl ⟨rfl, by decide, by decide⟩ (fun w h Y => PySem.W.kIn_of Y) ?F (fun _ _ a ns hl _ hS => ⟨a, ns, rfl, hS, hl, fun _ => rfl⟩) (fun _ _ _ _ _ h => h)
  case F =>
    intro w mg fa h KX G hmg
    refine' K58.all_mk KX G hmg ?al ?ll ?cl ?kl ?z_gcd ?z_zip ?z_max ?z_repr ?z_len ?z_list ?z_sum ?z_all ?z_tuple ?z_abs ?z_range ?z_min ?z_int ?d_pen ?d_value ?d_common ?d_in_lowest ?d_ends_of ?d_line_through ?d_stretch_ends ?d_point_borders ?d_borders ?d_is_in ?d_is_inner ?d__law_draw ?d__law_pick ?d__law_p_gcd ?d__law_p_point ?d__law_p_value ?d__law_p_before ?d__law_p_sorted ?d__law_p_side ?d__law_p_around ?d__law_p_mixture ?d__law_b_lowest ?d__law_b_through ?d__law_b_lines
    (case al => k_is); (case ll => k_is); (case cl => k_is); (case kl => k_is)
    (case z_gcd => k_is)
    (case z_zip => k_is)
    (case z_max => k_is)
    (case z_repr => k_is)
    (case z_len => k_is)
    (case z_list => k_is)
    (case z_sum => k_is)
    (case z_all => k_is)
    (case z_tuple => k_is)
    (case z_abs => k_is)
    (case z_range => k_is)
    (case z_min => k_is)
    (case z_int => k_is)
    (case d_pen => (refine' K58.DefIn.of ?a ?l ?c ?k; (case a => k_is); (case l => k_is); (case c => k_is); (case k => k_is)))
    (case d_value => (refine' K58.DefIn.of ?a ?l ?c ?k; (case a => k_is); (case l => k_is); (case c => k_is); (case k => k_is)))
    (case d_common => (refine' K58.DefIn.of ?a ?l ?c ?k; (case a => k_is); (case l => k_is); (case c => k_is); (case k => k_is)))
    (case d_in_lowest => (refine' K58.DefIn.of ?a ?l ?c ?k; (case a => k_is); (case l => k_is); (case c => k_is); (case k => k_is)))
    (case d_ends_of => (refine' K58.DefIn.of ?a ?l ?c ?k; (case a => k_is); (case l => k_is); (case c => k_is); (case k => k_is)))
    (case d_line_through => (refine' K58.DefIn.of ?a ?l ?c ?k; (case a => k_is); (case l => k_is); (case c => k_is); (case k => k_is)))
    (case d_stretch_ends => (refine' K58.DefIn.of ?a ?l ?c ?k; (case a => k_is); (case l => k_is); (case c => k_is); (case k => k_is)))
    (case d_point_borders => (refine' K58.DefIn.of ?a ?l ?c ?k; (case a => k_is); (case l => k_is); (case c => k_is); (case k => k_is)))
    (case d_borders => (refine' K58.DefIn.of ?a ?l ?c ?k; (case a => k_is); (case l => k_is); (case c => k_is); (case k => k_is)))
    (case d_is_in => (refine' K58.DefIn.of ?a ?l ?c ?k; (case a => k_is); (case l => k_is); (case c => k_is); (case k => k_is)))
    (case d_is_inner => (refine' K58.DefIn.of ?a ?l ?c ?k; (case a => k_is); (case l => k_is); (case c => k_is); (case k => k_is)))
    (case d__law_draw => (refine' K58.DefIn.of ?a ?l ?c ?k; (case a => k_is); (case l => k_is); (case c => k_is); (case k => k_is)))
    (case d__law_pick => (refine' K58.DefIn.of ?a ?l ?c ?k; (case a => k_is); (case l => k_is); (case c => k_is); (case k => k_is)))
    (case d__law_p_gcd => (refine' K58.DefIn.of ?a ?l ?c ?k; (case a => k_is); (case l => k_is); (case c => k_is); (case k => k_is)))
    (case d__law_p_point => (refine' K58.DefIn.of ?a ?l ?c ?k; (case a => k_is); (case l => k_is); (case c => k_is); (case k => k_is)))
    (case d__law_p_value => (refine' K58.DefIn.of ?a ?l ?c ?k; (case a => k_is); (case l => k_is); (case c => k_is); (case k => k_is)))
    (case d__law_p_before => (refine' K58.DefIn.of ?a ?l ?c ?k; (case a => k_is); (case l => k_is); (case c => k_is); (case k => k_is)))
    (case d__law_p_sorted => (refine' K58.DefIn.of ?a ?l ?c ?k; (case a => k_is); (case l => k_is); (case c => k_is); (case k => k_is)))
    (case d__law_p_side => (refine' K58.DefIn.of ?a ?l ?c ?k; (case a => k_is); (case l => k_is); (case c => k_is); (case k => k_is)))
    (case d__law_p_around => (refine' K58.DefIn.of ?a ?l ?c ?k; (case a => k_is); (case l => k_is); (case c => k_is); (case k => k_is)))
    (case d__law_p_mixture => (refine' K58.DefIn.of ?a ?l ?c ?k; (case a => k_is); (case l => k_is); (case c => k_is); (case k => k_is)))
    (case d__law_b_lowest => (refine' K58.DefIn.of ?a ?l ?c ?k; (case a => k_is); (case l => k_is); (case c => k_is); (case k => k_is)))
    (case d__law_b_through => (refine' K58.DefIn.of ?a ?l ?c ?k; (case a => k_is); (case l => k_is); (case c => k_is); (case k => k_is)))
    (case d__law_b_lines => (refine' K58.DefIn.of ?a ?l ?c ?k; (case a => k_is); (case l => k_is); (case c => k_is); (case k => k_is)))
